/- Walks of the functions that the law 'FnExactHistOk' reaches, part 13: for each a Lean function and the proof that Go's comes to just its answer (lines of the print, under own names; no condition). -/
import Derived.Test.YtmphggpibaolcaaZFnExactHistOkQFnExactHistOkx0
import Derived.Test.YtmphggpibaolcaaZFnExactHistOkQFnExactHistOkx2
import Derived.Test.YtmphggpibaolcaaZFnExactHistOkQFnExactHistOkx6
import Derived.Test.YtmphggpibaolcaaZFnExactHistOkQFnExactHistOkx7
import Derived.Test.YtmphggpibaolcaaZFnExactHistOkQFnExactHistOkx10
import Derived.Test.YtmphggpibaolcaaZFnExactHistOkQFnExactHistOkx12
namespace Go.Proofs.Ytmphggpibaolcaa.PFnExactHistOk
open Go.RowKit Go.Proofs.YtmphggpibaolcaaW.PrintWords Go.Proofs.YtmphggpibaolcaaW.PrintLast Go.Proofs.YtmphggpibaolcaaW.PrintMore
attribute [local go_sem] max2_int min2_int max_two min_two max_three min_three max_four min_four
set_option linter.unusedVariables false
set_option linter.unusedSimpArgs false
def laws_FnExactHistOk.f (k : Nat) (l0_0 : List (S86)) (l0_1 : List (List (S86))) (l0_2 : List (List (S86))) : Option (Bool) := (laws_szHist.f k l0_0 l0_1 l0_2 1048576).bind fun t263 => (if t263 < 0 then (some true) else ((laws_toHist.f k l0_0 l0_1 l0_2).bind fun bt264 => ((spec_HistOk.f k bt264.1 bt264.2.1 bt264.2.2).bind fun t273 => ((laws_toHist.f k l0_0 l0_1 l0_2).bind fun bt274 => ((impl_HistOk.f k bt274.1 bt274.2.1 bt274.2.2).bind fun t284 => (if (t284 != t273) = true then (some false) else ((laws_toHist.f k l0_0 l0_1 l0_2).bind fun bt285 => ((laws_eqHist.f k bt274.1 bt274.2.1 bt274.2.2 bt285.1 bt285.2.1 bt285.2.2).bind fun t294 => (if t294 = true then (some true) else (some false))))))))))
theorem laws_FnExactHistOk.mono : ∀ a0 a1 a2 k, LeO (laws_FnExactHistOk.f k a0 a1 a2) (laws_FnExactHistOk.f (k + 1) a0 a1 a2) := by
 intro a0 a1 a2 k
 unfold laws_FnExactHistOk.f
 repeat' first
   | (with_reducible exact impl_HistOk.mono _ _ _ _)
   | (with_reducible exact laws_eqHist.mono _ _ _ _ _ _ _)
   | (with_reducible exact laws_szHist.mono _ _ _ _ _)
   | (with_reducible exact laws_toHist.mono _ _ _ _)
   | (with_reducible exact spec_HistOk.mono _ _ _ _)
   | (with_reducible exact LeO.refl _)
   | (with_reducible exact LeO.none _)
   | (with_reducible refine LeO.ite ?_ ?_)
   | (with_reducible refine LeO.bind ?_ (fun _ => ?_))
   | exact impl_HistOk.mono _ _ _ _
   | exact laws_eqHist.mono _ _ _ _ _ _ _
   | exact laws_szHist.mono _ _ _ _ _
   | exact laws_toHist.mono _ _ _ _
   | exact spec_HistOk.mono _ _ _ _
   | exact LeO.none _
   | refine LeO.ite ?_ ?_
   | refine LeO.bind ?_ (fun _ => ?_)
set_option maxHeartbeats 8000000 in
set_option maxRecDepth 100000 in
theorem laws_FnExactHistOk.calls (k : Nat) (A0_0 : Option Addr) (c0_0 : Nat) (l0_0 : List (S86)) (A0_1 : Option Addr) (c0_1 : Nat) (l0_1 : List (List (S86))) (A0_2 : Option Addr) (c0_2 : Nat) (l0_2 : List (List (S86))) (r : Bool) (w : World) (hr0_0 : Kd.C k86 w A0_0 l0_0.length l0_0) (hc0_0 : l0_0.length ≤ c0_0) (hr0_1 : Kd.C (Kd.slice 86 k86) w A0_1 l0_1.length l0_1) (hc0_1 : l0_1.length ≤ c0_1) (hr0_2 : Kd.C (Kd.slice 86 k86) w A0_2 l0_2.length l0_2) (hc0_2 : l0_2.length ≤ c0_2) (h : laws_FnExactHistOk.f k l0_0 l0_1 l0_2 = some r) :
  Calls Try.prog 3 #[.agg #[.slice A0_0 l0_0.length c0_0, .slice A0_1 l0_1.length c0_1, .slice A0_2 l0_2.length c0_2]] w fun e w' => e = .returned (.bool r) ∧ Below w.heap.size w w' := by
 have hu25 := Try.underlying25
 have hu31 := Try.underlying31
 have HR0_0 := A_ hr0_0
 have HC0_0 := A_ hc0_0
 clear hr0_0 hc0_0
 have HR0_1 := A_ hr0_1
 have HC0_1 := A_ hc0_1
 clear hr0_1 hc0_1
 have HR0_2 := A_ hr0_2
 have HC0_2 := A_ hc0_2
 clear hr0_2 hc0_2
 have HB := A_ (Below.refl w.heap.size w)
 have H : ((laws_szHist.f k l0_0 l0_1 l0_2 1048576).bind fun t263 => (if t263 < 0 then (some true) else ((laws_toHist.f k l0_0 l0_1 l0_2).bind fun bt264 => ((spec_HistOk.f k bt264.1 bt264.2.1 bt264.2.2).bind fun t273 => ((laws_toHist.f k l0_0 l0_1 l0_2).bind fun bt274 => ((impl_HistOk.f k bt274.1 bt274.2.1 bt274.2.2).bind fun t284 => (if (t284 != t273) = true then (some false) else ((laws_toHist.f k l0_0 l0_1 l0_2).bind fun bt285 => ((laws_eqHist.f k bt274.1 bt274.2.1 bt274.2.2 bt285.1 bt285.2.1 bt285.2.2).bind fun t294 => (if t294 = true then (some true) else (some false))))))))))) = some r := h
 clear h
 replace H := Option.bind_eq_some_iff.mp H
 obtain ⟨t263, A20, H⟩ := H
 replace H : (if t263 < 0 then (some true) else ((laws_toHist.f k l0_0 l0_1 l0_2).bind fun bt264 => ((spec_HistOk.f k bt264.1 bt264.2.1 bt264.2.2).bind fun t273 => ((laws_toHist.f k l0_0 l0_1 l0_2).bind fun bt274 => ((impl_HistOk.f k bt274.1 bt274.2.1 bt274.2.2).bind fun t284 => (if (t284 != t273) = true then (some false) else ((laws_toHist.f k l0_0 l0_1 l0_2).bind fun bt285 => ((laws_eqHist.f k bt274.1 bt274.2.1 bt274.2.2 bt285.1 bt285.2.1 bt285.2.2).bind fun t294 => (if t294 = true then (some true) else (some false)))))))))) = some r := H
 have A2 := A_ A20
 clear A20
 by_cases c3 : t263 < 0
 ·rw [if_pos c3] at H
  have c3b0 : decide (t263 < 0) = true := decide_eq_true c3
  clear c3
  obtain rfl := Option.some.inj H
  go_enter Try.func3, Try.ntmps3
  go_wp2_with (first | ((with_reducible refine gate_dst (N := 1) rfl ?_); refine box_event ?hg (N := 1) ?hd (cs := #[.slice A0_0 l0_0.length c0_0, .slice A0_1 l0_1.length c0_1, .slice A0_2 l0_2.length c0_2]) (t := 25) ?hr ?_; (case hd => rfl); (case hg => rfl); (case hr => exact Z16); intro gb262 hg w4 hbox hb; have n0_ := A_ (below_step Z1 hb); have n1_ := A_ (hbox); have n2_ := A_ ((by rw [hg]; exact (below_size Z1) : w.heap.size ≤ gb262)); have n3_ := A_ ((by rw [hg]; exact (below_size Z1) : w.heap.size ≤ gb262)); clear HB; have HB := n0_; have BK262 := n1_; have GW262 := n2_; have GE262 := n3_; clear n0_ n1_ n2_ n3_; clear hb hbox hg; have hcz5_0 : w4.cell? ⟨gb262, 0, none⟩ = some (.slice A0_0 l0_0.length c0_0) := (blk_cell BK262.out 0).trans rfl; have hcz5_1 : w4.cell? ⟨gb262, 1, none⟩ = some (.slice A0_1 l0_1.length c0_1) := (blk_cell BK262.out 1).trans rfl; have hcz5_2 : w4.cell? ⟨gb262, 2, none⟩ = some (.slice A0_2 l0_2.length c0_2) := (blk_cell BK262.out 2).trans rfl; have hfz5_0 := blk_frozen BK262.out 0; have hfz5_1 := blk_frozen BK262.out 1; have hfz5_2 := blk_frozen BK262.out 2) | ((with_reducible refine gate_callee (f := 8) rfl ?_); refine goesL_ (some 9) rfl rfl Try.func8 (by kernel_rfl) rfl #[.agg #[.slice A0_0 l0_0.length c0_0, .slice A0_1 l0_1.length c0_1, .slice A0_2 l0_2.length c0_2], .int .i64 1048576] rfl Z5 ?_; (with_reducible refine (laws_szHist.calls k _ _ l0_0 _ _ l0_1 _ _ l0_2 1048576 t263 _ ?side1 ?side2 ?side3 ?side4 ?side5 ?side6 A2.out).mono ?_); (case side1 => exact Z3 HR0_0.out); (case side2 => exact HC0_0.out); (case side3 => exact Z3 HR0_1.out); (case side4 => exact HC0_1.out); (case side5 => exact Z3 HR0_2.out); (case side6 => exact HC0_2.out); rintro e w6 ⟨rfl, hb⟩; refine ⟨_, rfl, ?_⟩; have n0_ := A_ (blk_below (g := gb262) (o := .cells #[.slice A0_0 l0_0.length c0_0, .slice A0_1 l0_1.length c0_1, .slice A0_2 l0_2.length c0_2] 25 (0, 0)) (Z4 BK262.out) hb); have n1_ := A_ (below_step (Z2 GE262.out) hb); clear BK262; clear HB; have BK262 := n0_; have HB := n1_; clear n0_ n1_; (try clear hb); (try clear hb2); (try clear hk); (try clear hi)))
  go_ret
  exact ⟨Z11, Z2 GE262.out⟩
 ·rw [if_neg c3] at H
  have c3b0 : decide (t263 < 0) = false := decide_eq_false c3
  clear c3
  replace H := Option.bind_eq_some_iff.mp H
  obtain ⟨⟨t264, t267, t270⟩, A70, H⟩ := H
  replace H : ((spec_HistOk.f k t264 t267 t270).bind fun t273 => ((laws_toHist.f k l0_0 l0_1 l0_2).bind fun bt274 => ((impl_HistOk.f k bt274.1 bt274.2.1 bt274.2.2).bind fun t284 => (if (t284 != t273) = true then (some false) else ((laws_toHist.f k l0_0 l0_1 l0_2).bind fun bt285 => ((laws_eqHist.f k bt274.1 bt274.2.1 bt274.2.2 bt285.1 bt285.2.1 bt285.2.2).bind fun t294 => (if t294 = true then (some true) else (some false)))))))) = some r := H
  have A7 := A_ A70
  clear A70
  replace H := Option.bind_eq_some_iff.mp H
  obtain ⟨t273, A80, H⟩ := H
  replace H : ((laws_toHist.f k l0_0 l0_1 l0_2).bind fun bt274 => ((impl_HistOk.f k bt274.1 bt274.2.1 bt274.2.2).bind fun t284 => (if (t284 != t273) = true then (some false) else ((laws_toHist.f k l0_0 l0_1 l0_2).bind fun bt285 => ((laws_eqHist.f k bt274.1 bt274.2.1 bt274.2.2 bt285.1 bt285.2.1 bt285.2.2).bind fun t294 => (if t294 = true then (some true) else (some false))))))) = some r := H
  have A8 := A_ A80
  clear A80
  replace H := Option.bind_eq_some_iff.mp H
  obtain ⟨⟨t274, t277, t280⟩, A90, H⟩ := H
  replace H : ((impl_HistOk.f k t274 t277 t280).bind fun t284 => (if (t284 != t273) = true then (some false) else ((laws_toHist.f k l0_0 l0_1 l0_2).bind fun bt285 => ((laws_eqHist.f k t274 t277 t280 bt285.1 bt285.2.1 bt285.2.2).bind fun t294 => (if t294 = true then (some true) else (some false)))))) = some r := H
  have A9 := A_ A90
  clear A90
  replace H := Option.bind_eq_some_iff.mp H
  obtain ⟨t284, A100, H⟩ := H
  replace H : (if (t284 != t273) = true then (some false) else ((laws_toHist.f k l0_0 l0_1 l0_2).bind fun bt285 => ((laws_eqHist.f k t274 t277 t280 bt285.1 bt285.2.1 bt285.2.2).bind fun t294 => (if t294 = true then (some true) else (some false))))) = some r := H
  have A10 := A_ A100
  clear A100
  by_cases c11 : (t284 != t273) = true
  ·rw [if_pos c11] at H
   have c11b0 : (t284 != t273) = true := c11
   (try (have c11b1 : decide (t284 = t273) = false := by simpa using c11))
   (try (have c11b2 : (t284 == t273) = false := by simpa using c11))
   (try (have c11b3 : ¬ (t284 = t273) := by simpa using c11))
   clear c11
   obtain rfl := Option.some.inj H
   go_enter Try.func3, Try.ntmps3
   go_wp2_with (first | ((with_reducible refine gate_dst (N := 1) rfl ?_); refine box_event ?hg (N := 1) ?hd (cs := #[.slice A0_0 l0_0.length c0_0, .slice A0_1 l0_1.length c0_1, .slice A0_2 l0_2.length c0_2]) (t := 25) ?hr ?_; (case hd => rfl); (case hg => rfl); (case hr => exact Z16); intro gb262 hg w12 hbox hb; have n0_ := A_ (below_step Z1 hb); have n1_ := A_ (hbox); have n2_ := A_ ((by rw [hg]; exact (below_size Z1) : w.heap.size ≤ gb262)); have n3_ := A_ ((by rw [hg]; exact (below_size Z1) : w.heap.size ≤ gb262)); clear HB; have HB := n0_; have BK262 := n1_; have GW262 := n2_; have GE262 := n3_; clear n0_ n1_ n2_ n3_; clear hb hbox hg; have hcz13_0 : w12.cell? ⟨gb262, 0, none⟩ = some (.slice A0_0 l0_0.length c0_0) := (blk_cell BK262.out 0).trans rfl; have hcz13_1 : w12.cell? ⟨gb262, 1, none⟩ = some (.slice A0_1 l0_1.length c0_1) := (blk_cell BK262.out 1).trans rfl; have hcz13_2 : w12.cell? ⟨gb262, 2, none⟩ = some (.slice A0_2 l0_2.length c0_2) := (blk_cell BK262.out 2).trans rfl; have hfz13_0 := blk_frozen BK262.out 0; have hfz13_1 := blk_frozen BK262.out 1; have hfz13_2 := blk_frozen BK262.out 2) | ((with_reducible refine gate_callee (f := 8) rfl ?_); refine goesL_ (some 9) rfl rfl Try.func8 (by kernel_rfl) rfl #[.agg #[.slice A0_0 l0_0.length c0_0, .slice A0_1 l0_1.length c0_1, .slice A0_2 l0_2.length c0_2], .int .i64 1048576] rfl Z5 ?_; (with_reducible refine (laws_szHist.calls k _ _ l0_0 _ _ l0_1 _ _ l0_2 1048576 t263 _ ?side1 ?side2 ?side3 ?side4 ?side5 ?side6 A2.out).mono ?_); (case side1 => exact Z3 HR0_0.out); (case side2 => exact HC0_0.out); (case side3 => exact Z3 HR0_1.out); (case side4 => exact HC0_1.out); (case side5 => exact Z3 HR0_2.out); (case side6 => exact HC0_2.out); rintro e w14 ⟨rfl, hb⟩; refine ⟨_, rfl, ?_⟩; have n0_ := A_ (blk_below (g := gb262) (o := .cells #[.slice A0_0 l0_0.length c0_0, .slice A0_1 l0_1.length c0_1, .slice A0_2 l0_2.length c0_2] 25 (0, 0)) (Z4 BK262.out) hb); have n1_ := A_ (below_step (Z2 GE262.out) hb); clear BK262; clear HB; have BK262 := n0_; have HB := n1_; clear n0_ n1_; (try clear hb); (try clear hb2); (try clear hk); (try clear hi); have hcz15_0 : w14.cell? ⟨gb262, 0, none⟩ = some (.slice A0_0 l0_0.length c0_0) := (blk_cell BK262.out 0).trans rfl; have hcz15_1 : w14.cell? ⟨gb262, 1, none⟩ = some (.slice A0_1 l0_1.length c0_1) := (blk_cell BK262.out 1).trans rfl; have hcz15_2 : w14.cell? ⟨gb262, 2, none⟩ = some (.slice A0_2 l0_2.length c0_2) := (blk_cell BK262.out 2).trans rfl; have hfz15_0 := blk_frozen BK262.out 0; have hfz15_1 := blk_frozen BK262.out 1; have hfz15_2 := blk_frozen BK262.out 2) | ((with_reducible refine gate_callee (f := 10) rfl ?_); refine goesL_ (some 13) rfl rfl Try.func10 (by kernel_rfl) rfl #[.agg #[.slice A0_0 l0_0.length c0_0, .slice A0_1 l0_1.length c0_1, .slice A0_2 l0_2.length c0_2]] rfl Z5 ?_; (with_reducible refine (laws_toHist.calls k _ _ l0_0 _ _ l0_1 _ _ l0_2 t264 t267 t270 _ ?side1 ?side2 ?side3 ?side4 ?side5 ?side6 A7.out).mono ?_); (case side1 => exact Z3 HR0_0.out); (case side2 => exact HC0_0.out); (case side3 => exact Z3 HR0_1.out); (case side4 => exact HC0_1.out); (case side5 => exact Z3 HR0_2.out); (case side6 => exact HC0_2.out); rintro e w16 ⟨v265, v268, v271, rfl, ho0, ho1, ho2, hb⟩; refine ⟨_, rfl, ?_⟩; have n0_ := A_ (Kd.S_lower ho0 (below_size (Z2 GE262.out))); have n1_ := A_ (Kd.R_lower ho1 (below_size (Z2 GE262.out))); have n2_ := A_ (Kd.R_lower ho2 (below_size (Z2 GE262.out))); have n3_ := A_ (blk_below (g := gb262) (o := .cells #[.slice A0_0 l0_0.length c0_0, .slice A0_1 l0_1.length c0_1, .slice A0_2 l0_2.length c0_2] 25 (0, 0)) (Z4 BK262.out) hb); have n4_ := A_ (below_step (Z2 GE262.out) hb); clear BK262; clear HB; have HO266 := n0_; have HO269 := n1_; have HO272 := n2_; have BK262 := n3_; have HB := n4_; clear n0_ n1_ n2_ n3_ n4_; (try clear hb); (try clear hb2); (try clear hk); (try clear hi); (try clear ho0); (try clear ho1); (try clear ho2); obtain ⟨Ao17, co17, eo17⟩ := Kd.S_slice HO266.out; subst eo17; obtain ⟨Ao18, co18, eo18⟩ := Kd.R_slice HO269.out; subst eo18; obtain ⟨Ao19, co19, eo19⟩ := Kd.R_slice HO272.out; subst eo19) | ((with_reducible refine gate_callee (f := 9) rfl ?_); refine goesL_ (some 14) rfl rfl Try.func9 (by kernel_rfl) rfl #[.agg #[.slice Ao17 t264.length co17, .slice Ao18 t267.length co18, .slice Ao19 t270.length co19]] rfl Z5 ?_; (with_reducible refine (spec_HistOk.calls k _ _ t264 _ _ t267 _ _ t270 t273 _ ?side1 ?side2 ?side3 ?side4 ?side5 ?side6 A8.out).mono ?_); (case side1 => exact Z32 HO266.out); (case side2 => exact (Kd.S_reads' HO266.out).2.1); (case side3 => exact Z19 HO269.out); (case side4 => exact (Kd.R_reads' HO269.out).2.1); (case side5 => exact Z19 HO272.out); (case side6 => exact (Kd.R_reads' HO272.out).2.1); rintro e w20 ⟨rfl, hb⟩; refine ⟨_, rfl, ?_⟩; have n0_ := A_ (Kd.S_below (Z15 HO266.out) hb); have n1_ := A_ (Kd.R_below (Z14 HO269.out) hb); have n2_ := A_ (Kd.R_below (Z14 HO272.out) hb); have n3_ := A_ (blk_below (g := gb262) (o := .cells #[.slice A0_0 l0_0.length c0_0, .slice A0_1 l0_1.length c0_1, .slice A0_2 l0_2.length c0_2] 25 (0, 0)) (Z4 BK262.out) hb); have n4_ := A_ (below_step (Z2 GE262.out) hb); clear HO266; clear HO269; clear HO272; clear BK262; clear HB; have HO266 := n0_; have HO269 := n1_; have HO272 := n2_; have BK262 := n3_; have HB := n4_; clear n0_ n1_ n2_ n3_ n4_; (try clear hb); (try clear hb2); (try clear hk); (try clear hi); have hcz21_0 : w20.cell? ⟨gb262, 0, none⟩ = some (.slice A0_0 l0_0.length c0_0) := (blk_cell BK262.out 0).trans rfl; have hcz21_1 : w20.cell? ⟨gb262, 1, none⟩ = some (.slice A0_1 l0_1.length c0_1) := (blk_cell BK262.out 1).trans rfl; have hcz21_2 : w20.cell? ⟨gb262, 2, none⟩ = some (.slice A0_2 l0_2.length c0_2) := (blk_cell BK262.out 2).trans rfl; have hfz21_0 := blk_frozen BK262.out 0; have hfz21_1 := blk_frozen BK262.out 1; have hfz21_2 := blk_frozen BK262.out 2) | ((with_reducible refine gate_callee (f := 10) rfl ?_); refine goesL_ (some 16) rfl rfl Try.func10 (by kernel_rfl) rfl #[.agg #[.slice A0_0 l0_0.length c0_0, .slice A0_1 l0_1.length c0_1, .slice A0_2 l0_2.length c0_2]] rfl Z5 ?_; (with_reducible refine (laws_toHist.calls k _ _ l0_0 _ _ l0_1 _ _ l0_2 t274 t277 t280 _ ?side1 ?side2 ?side3 ?side4 ?side5 ?side6 A9.out).mono ?_); (case side1 => exact Z3 HR0_0.out); (case side2 => exact HC0_0.out); (case side3 => exact Z3 HR0_1.out); (case side4 => exact HC0_1.out); (case side5 => exact Z3 HR0_2.out); (case side6 => exact HC0_2.out); rintro e w22 ⟨v275, v278, v281, rfl, ho0, ho1, ho2, hb⟩; refine ⟨_, rfl, ?_⟩; have n0_ := A_ (Kd.S_elder' (Z15 HO266.out) (Kd.S_base ho0) hb); have n1_ := A_ (Kd.R_mono (Kd.R_told (Kd.R_told (Kd.R_told (Kd.R_old (Z14 HO269.out) hb) (Kd.S_base ho0)) (Kd.R_base ho1)) (Kd.R_base ho2)) (fun _ h_ => h_.1)); have n2_ := A_ (Kd.R_mono (Kd.R_told (Kd.R_told (Kd.R_told (Kd.R_old (Z14 HO272.out) hb) (Kd.S_base ho0)) (Kd.R_base ho1)) (Kd.R_base ho2)) (fun _ h_ => h_.1)); have n3_ := A_ (Kd.S_lower (Kd.S_new' ho0 (Kd.S_lt (Z15 HO266.out))) (below_size (Z2 GE262.out))); have n4_ := A_ (Kd.R_lower (Kd.R_new' (Kd.R_new' (Kd.R_new' ho1 (Kd.S_lt (Z15 HO266.out))) (Kd.R_lt (Z14 HO269.out))) (Kd.R_lt (Z14 HO272.out))) (below_size (Z2 GE262.out))); have n5_ := A_ (Kd.R_lower (Kd.R_new' (Kd.R_new' (Kd.R_new' ho2 (Kd.S_lt (Z15 HO266.out))) (Kd.R_lt (Z14 HO269.out))) (Kd.R_lt (Z14 HO272.out))) (below_size (Z2 GE262.out))); have n6_ := A_ (blk_below (g := gb262) (o := .cells #[.slice A0_0 l0_0.length c0_0, .slice A0_1 l0_1.length c0_1, .slice A0_2 l0_2.length c0_2] 25 (0, 0)) (Z4 BK262.out) hb); have n7_ := A_ (below_step (Z2 GE262.out) hb); clear HO266; clear HO269; clear HO272; clear BK262; clear HB; have HO266 := n0_; have HO269 := n1_; have HO272 := n2_; have HO276 := n3_; have HO279 := n4_; have HO282 := n5_; have BK262 := n6_; have HB := n7_; clear n0_ n1_ n2_ n3_ n4_ n5_ n6_ n7_; (try clear hb); (try clear hb2); (try clear hk); (try clear hi); (try clear ho0); (try clear ho1); (try clear ho2)) | ((with_reducible refine gate_dst (N := 5) rfl ?_); refine box_event ?hg (N := 5) ?hd (cs := #[.slice none 0 0, .slice none 0 0, .slice none 0 0]) (t := 31) ?hr ?_; (case hd => rfl); (case hg => rfl); (case hr => exact Z16); intro gb283 hg w23 hbox hb; have n0_ := A_ (Kd.S_below (Z15 HO266.out) hb); have n1_ := A_ (Kd.R_below (Z14 HO269.out) hb); have n2_ := A_ (Kd.R_below (Z14 HO272.out) hb); have n3_ := A_ (Kd.S_below (Z15 HO276.out) hb); have n4_ := A_ (Kd.R_below (Z14 HO279.out) hb); have n5_ := A_ (Kd.R_below (Z14 HO282.out) hb); have n6_ := A_ (blk_below (g := gb262) (o := .cells #[.slice A0_0 l0_0.length c0_0, .slice A0_1 l0_1.length c0_1, .slice A0_2 l0_2.length c0_2] 25 (0, 0)) (Z4 BK262.out) hb); have n7_ := A_ (below_step (Z2 GE262.out) hb); have n8_ := A_ (hbox); have n9_ := A_ ((by rw [hg]; exact (below_size (Z2 GE262.out)) : w.heap.size ≤ gb283)); have n10_ := A_ ((by rw [hg]; exact (below_size (Z2 GE262.out)) : w.heap.size ≤ gb283)); have n11_ := A_ ((by rw [hg]; exact Nat.ne_of_lt (blk_lt (g := gb262) (o := .cells #[.slice A0_0 l0_0.length c0_0, .slice A0_1 l0_1.length c0_1, .slice A0_2 l0_2.length c0_2] 25 (0, 0)) (Z4 BK262.out)) : gb262 ≠ gb283)); have n12_ := A_ ((by rw [hg]; exact Nat.ne_of_gt (blk_lt (g := gb262) (o := .cells #[.slice A0_0 l0_0.length c0_0, .slice A0_1 l0_1.length c0_1, .slice A0_2 l0_2.length c0_2] 25 (0, 0)) (Z4 BK262.out)) : gb283 ≠ gb262)); clear HO266; clear HO269; clear HO272; clear HO276; clear HO279; clear HO282; clear BK262; clear HB; have HO266 := n0_; have HO269 := n1_; have HO272 := n2_; have HO276 := n3_; have HO279 := n4_; have HO282 := n5_; have BK262 := n6_; have HB := n7_; have BK283 := n8_; have GW283 := n9_; have GE283 := n10_; have NB262_283 := n11_; have NB283_262 := n12_; clear n0_ n1_ n2_ n3_ n4_ n5_ n6_ n7_ n8_ n9_ n10_ n11_ n12_; clear hb hbox hg; obtain ⟨Ao24, co24, eo24⟩ := Kd.S_slice HO276.out; subst eo24; have hnb25 := NB283_262.out; have hnc25 := NB262_283.out; have hcz26_0 : w23.cell? ⟨gb283, 0, none⟩ = some (.slice none 0 0) := (blk_cell BK283.out 0).trans rfl; have hcz26_1 : w23.cell? ⟨gb283, 1, none⟩ = some (.slice none 0 0) := (blk_cell BK283.out 1).trans rfl; have hcz26_2 : w23.cell? ⟨gb283, 2, none⟩ = some (.slice none 0 0) := (blk_cell BK283.out 2).trans rfl; have hfz26_0 := blk_frozen BK283.out 0; have hfz26_1 := blk_frozen BK283.out 1; have hfz26_2 := blk_frozen BK283.out 2; obtain ⟨Ao27, co27, eo27⟩ := Kd.R_slice HO279.out; subst eo27; obtain ⟨Ao28, co28, eo28⟩ := Kd.R_slice HO282.out; subst eo28) | ((with_reducible refine gate_callee (f := 11) rfl ?_); refine goesL_ (some 18) rfl rfl Try.func11 (by kernel_rfl) rfl #[.agg #[.slice Ao24 t274.length co24, .slice Ao27 t277.length co27, .slice Ao28 t280.length co28]] rfl Z5 ?_; (with_reducible refine (impl_HistOk.calls k _ _ t274 _ _ t277 _ _ t280 t284 _ ?side1 ?side2 ?side3 ?side4 ?side5 ?side6 A10.out).mono ?_); (case side1 => refine (Kd.S_reads' (e := 95) (base := w.heap.size) (ok := fun k_ => (True ∧ some k_ ≠ (.slice Ao17 t264.length co17 : Value).ownBlock)) (n := t274.length) (c := co24) ?_).2.2; exact (by (with_reducible repeat (first | apply Kd.S_alloc | apply Kd.S_drewN | apply Kd.S_drew)); exact (Kd.S_mono (Kd.S_far (p := ⟨gb283, 2, none⟩) (Kd.S_far (p := ⟨gb283, 1, none⟩) (Kd.S_far (p := ⟨gb283, 0, none⟩) (Kd.S_types HO276.out BK283.out (by decide)) (fun _ hk => hk.2) (.slice Ao24 t274.length co24)) (fun _ hk => hk.2) (.slice Ao27 t277.length co27)) (fun _ hk => hk.2) (.slice Ao28 t280.length co28)) (fun _ h_ => h_.1)))); (case side2 => exact (Kd.S_reads' HO276.out).2.1); (case side3 => refine (Kd.R_reads' (e := 28) (base := w.heap.size) (ok := fun k_ => ((((some k_ ≠ (.slice Ao24 t274.length co24 : Value).ownBlock ∧ some k_ ≠ (.slice Ao28 t280.length co28 : Value).ownBlock) ∧ some k_ ≠ (.slice Ao17 t264.length co17 : Value).ownBlock) ∧ some k_ ≠ (.slice Ao18 t267.length co18 : Value).ownBlock) ∧ some k_ ≠ (.slice Ao19 t270.length co19 : Value).ownBlock)) (n := t277.length) (c := co27) ?_).2.2; exact (Z22 HO279.out BK283.out)); (case side4 => exact (Kd.R_reads' HO279.out).2.1); (case side5 => refine (Kd.R_reads' (e := 28) (base := w.heap.size) (ok := fun k_ => ((((some k_ ≠ (.slice Ao24 t274.length co24 : Value).ownBlock ∧ some k_ ≠ (.slice Ao27 t277.length co27 : Value).ownBlock) ∧ some k_ ≠ (.slice Ao17 t264.length co17 : Value).ownBlock) ∧ some k_ ≠ (.slice Ao18 t267.length co18 : Value).ownBlock) ∧ some k_ ≠ (.slice Ao19 t270.length co19 : Value).ownBlock)) (n := t280.length) (c := co28) ?_).2.2; exact (Z22 HO282.out BK283.out)); (case side6 => exact (Kd.R_reads' HO282.out).2.1); rintro e w29 ⟨rfl, hb⟩; refine ⟨_, rfl, ?_⟩; have n0_ := A_ (Kd.S_below (by (with_reducible repeat (first | apply Kd.S_alloc | apply Kd.S_drewN | apply Kd.S_drew)); exact (Kd.S_mono (Kd.S_far (p := ⟨gb283, 2, none⟩) (Kd.S_far (p := ⟨gb283, 1, none⟩) (Kd.S_far (p := ⟨gb283, 0, none⟩) (Kd.S_types HO266.out BK283.out (by decide)) (fun _ hk => hk.2) (.slice Ao24 t274.length co24)) (fun _ hk => hk.2) (.slice Ao27 t277.length co27)) (fun _ hk => hk.2) (.slice Ao28 t280.length co28)) (fun _ h_ => h_.1))) hb); have n1_ := A_ (Kd.R_below (Z22 HO269.out BK283.out) hb); have n2_ := A_ (Kd.R_below (Z22 HO272.out BK283.out) hb); have n3_ := A_ (Kd.S_below (by (with_reducible repeat (first | apply Kd.S_alloc | apply Kd.S_drewN | apply Kd.S_drew)); exact (Kd.S_mono (Kd.S_far (p := ⟨gb283, 2, none⟩) (Kd.S_far (p := ⟨gb283, 1, none⟩) (Kd.S_far (p := ⟨gb283, 0, none⟩) (Kd.S_types HO276.out BK283.out (by decide)) (fun _ hk => hk.2) (.slice Ao24 t274.length co24)) (fun _ hk => hk.2) (.slice Ao27 t277.length co27)) (fun _ hk => hk.2) (.slice Ao28 t280.length co28)) (fun _ h_ => h_.1))) hb); have n4_ := A_ (Kd.R_below (Z22 HO279.out BK283.out) hb); have n5_ := A_ (Kd.R_below (Z22 HO282.out BK283.out) hb); have n6_ := A_ (blk_below (g := gb262) (o := .cells #[.slice A0_0 l0_0.length c0_0, .slice A0_1 l0_1.length c0_1, .slice A0_2 l0_2.length c0_2] 25 (0, 0)) (by (with_reducible repeat (first | refine blk_drewN ?_ _ | refine blk_drew ?_ | refine blk_alloc ?_ _)); refine blk_far ?_ NB262_283.out _; (with_reducible repeat (first | refine blk_drewN ?_ _ | refine blk_drew ?_ | refine blk_alloc ?_ _)); refine blk_far ?_ NB262_283.out _; (with_reducible repeat (first | refine blk_drewN ?_ _ | refine blk_drew ?_ | refine blk_alloc ?_ _)); refine blk_far ?_ NB262_283.out _; (with_reducible repeat (first | refine blk_drewN ?_ _ | refine blk_drew ?_ | refine blk_alloc ?_ _)); exact BK262.out) hb); have n7_ := A_ (blk_below (g := gb283) (o := .cells #[.slice Ao24 t274.length co24, .slice Ao27 t277.length co27, .slice Ao28 t280.length co28] 31 (0, 0)) (by (with_reducible repeat (first | refine blk_drewN ?_ _ | refine blk_drew ?_ | refine blk_alloc ?_ _)); refine blk_put (cs := #[.slice Ao24 t274.length co24, .slice Ao27 t277.length co27, .slice none 0 0]) ?_ 2 _ rfl; (with_reducible repeat (first | refine blk_drewN ?_ _ | refine blk_drew ?_ | refine blk_alloc ?_ _)); refine blk_put (cs := #[.slice Ao24 t274.length co24, .slice none 0 0, .slice none 0 0]) ?_ 1 _ rfl; (with_reducible repeat (first | refine blk_drewN ?_ _ | refine blk_drew ?_ | refine blk_alloc ?_ _)); refine blk_put (cs := #[.slice none 0 0, .slice none 0 0, .slice none 0 0]) ?_ 0 _ rfl; (with_reducible repeat (first | refine blk_drewN ?_ _ | refine blk_drew ?_ | refine blk_alloc ?_ _)); exact BK283.out) hb); have n8_ := A_ (below_step (Z10 GE262.out GE283.out) hb); clear HO266; clear HO269; clear HO272; clear HO276; clear HO279; clear HO282; clear BK262; clear BK283; clear HB; have HO266 := n0_; have HO269 := n1_; have HO272 := n2_; have HO276 := n3_; have HO279 := n4_; have HO282 := n5_; have BK262 := n6_; have BK283 := n7_; have HB := n8_; clear n0_ n1_ n2_ n3_ n4_ n5_ n6_ n7_ n8_; (try clear hb); (try clear hb2); (try clear hk); (try clear hi)))
   go_ret
   exact ⟨Z11, Z10 GE262.out GE283.out⟩
  ·rw [if_neg c11] at H
   have c11b0 : (t284 != t273) = false := by simpa using c11
   (try (have c11b1 : decide (t284 = t273) = true := by simpa using c11))
   (try (have c11b2 : (t284 == t273) = true := by simpa using c11))
   clear c11
   replace H := Option.bind_eq_some_iff.mp H
   obtain ⟨⟨t285, t288, t291⟩, A300, H⟩ := H
   replace H : ((laws_eqHist.f k t274 t277 t280 t285 t288 t291).bind fun t294 => (if t294 = true then (some true) else (some false))) = some r := H
   have A30 := A_ A300
   clear A300
   replace H := Option.bind_eq_some_iff.mp H
   obtain ⟨t294, A310, H⟩ := H
   replace H : (if t294 = true then (some true) else (some false)) = some r := H
   have A31 := A_ A310
   clear A310
   by_cases c32 : t294 = true
   ·subst c32
    have H1 : (some true) = some r := by rw [if_pos rfl] at H; exact H
    clear H
    have H := H1
    clear H1
    obtain rfl := Option.some.inj H
    go_enter Try.func3, Try.ntmps3
    try go_wp2_with (first | ((with_reducible refine gate_dst (N := 1) rfl ?_); refine box_event ?hg (N := 1) ?hd (cs := #[.slice A0_0 l0_0.length c0_0, .slice A0_1 l0_1.length c0_1, .slice A0_2 l0_2.length c0_2]) (t := 25) ?hr ?_; (case hd => rfl); (case hg => rfl); (case hr => exact Z16); intro gb262 hg w33 hbox hb; have n0_ := A_ (below_step Z1 hb); have n1_ := A_ (hbox); have n2_ := A_ ((by rw [hg]; exact (below_size Z1) : w.heap.size ≤ gb262)); have n3_ := A_ ((by rw [hg]; exact (below_size Z1) : w.heap.size ≤ gb262)); clear HB; have HB := n0_; have BK262 := n1_; have GW262 := n2_; have GE262 := n3_; clear n0_ n1_ n2_ n3_; clear hb hbox hg; have hcz34_0 : w33.cell? ⟨gb262, 0, none⟩ = some (.slice A0_0 l0_0.length c0_0) := (blk_cell BK262.out 0).trans rfl; have hcz34_1 : w33.cell? ⟨gb262, 1, none⟩ = some (.slice A0_1 l0_1.length c0_1) := (blk_cell BK262.out 1).trans rfl; have hcz34_2 : w33.cell? ⟨gb262, 2, none⟩ = some (.slice A0_2 l0_2.length c0_2) := (blk_cell BK262.out 2).trans rfl; have hfz34_0 := blk_frozen BK262.out 0; have hfz34_1 := blk_frozen BK262.out 1; have hfz34_2 := blk_frozen BK262.out 2) | ((with_reducible refine gate_callee (f := 8) rfl ?_); refine goesL_ (some 9) rfl rfl Try.func8 (by kernel_rfl) rfl #[.agg #[.slice A0_0 l0_0.length c0_0, .slice A0_1 l0_1.length c0_1, .slice A0_2 l0_2.length c0_2], .int .i64 1048576] rfl Z5 ?_; (with_reducible refine (laws_szHist.calls k _ _ l0_0 _ _ l0_1 _ _ l0_2 1048576 t263 _ ?side1 ?side2 ?side3 ?side4 ?side5 ?side6 A2.out).mono ?_); (case side1 => exact Z3 HR0_0.out); (case side2 => exact HC0_0.out); (case side3 => exact Z3 HR0_1.out); (case side4 => exact HC0_1.out); (case side5 => exact Z3 HR0_2.out); (case side6 => exact HC0_2.out); rintro e w35 ⟨rfl, hb⟩; refine ⟨_, rfl, ?_⟩; have n0_ := A_ (blk_below (g := gb262) (o := .cells #[.slice A0_0 l0_0.length c0_0, .slice A0_1 l0_1.length c0_1, .slice A0_2 l0_2.length c0_2] 25 (0, 0)) (Z4 BK262.out) hb); have n1_ := A_ (below_step (Z2 GE262.out) hb); clear BK262; clear HB; have BK262 := n0_; have HB := n1_; clear n0_ n1_; (try clear hb); (try clear hb2); (try clear hk); (try clear hi); have hcz36_0 : w35.cell? ⟨gb262, 0, none⟩ = some (.slice A0_0 l0_0.length c0_0) := (blk_cell BK262.out 0).trans rfl; have hcz36_1 : w35.cell? ⟨gb262, 1, none⟩ = some (.slice A0_1 l0_1.length c0_1) := (blk_cell BK262.out 1).trans rfl; have hcz36_2 : w35.cell? ⟨gb262, 2, none⟩ = some (.slice A0_2 l0_2.length c0_2) := (blk_cell BK262.out 2).trans rfl; have hfz36_0 := blk_frozen BK262.out 0; have hfz36_1 := blk_frozen BK262.out 1; have hfz36_2 := blk_frozen BK262.out 2) | ((with_reducible refine gate_callee (f := 10) rfl ?_); refine goesL_ (some 13) rfl rfl Try.func10 (by kernel_rfl) rfl #[.agg #[.slice A0_0 l0_0.length c0_0, .slice A0_1 l0_1.length c0_1, .slice A0_2 l0_2.length c0_2]] rfl Z5 ?_; (with_reducible refine (laws_toHist.calls k _ _ l0_0 _ _ l0_1 _ _ l0_2 t264 t267 t270 _ ?side1 ?side2 ?side3 ?side4 ?side5 ?side6 A7.out).mono ?_); (case side1 => exact Z3 HR0_0.out); (case side2 => exact HC0_0.out); (case side3 => exact Z3 HR0_1.out); (case side4 => exact HC0_1.out); (case side5 => exact Z3 HR0_2.out); (case side6 => exact HC0_2.out); rintro e w37 ⟨v265, v268, v271, rfl, ho0, ho1, ho2, hb⟩; refine ⟨_, rfl, ?_⟩; have n0_ := A_ (Kd.S_lower ho0 (below_size (Z2 GE262.out))); have n1_ := A_ (Kd.R_lower ho1 (below_size (Z2 GE262.out))); have n2_ := A_ (Kd.R_lower ho2 (below_size (Z2 GE262.out))); have n3_ := A_ (blk_below (g := gb262) (o := .cells #[.slice A0_0 l0_0.length c0_0, .slice A0_1 l0_1.length c0_1, .slice A0_2 l0_2.length c0_2] 25 (0, 0)) (Z4 BK262.out) hb); have n4_ := A_ (below_step (Z2 GE262.out) hb); clear BK262; clear HB; have HO266 := n0_; have HO269 := n1_; have HO272 := n2_; have BK262 := n3_; have HB := n4_; clear n0_ n1_ n2_ n3_ n4_; (try clear hb); (try clear hb2); (try clear hk); (try clear hi); (try clear ho0); (try clear ho1); (try clear ho2); obtain ⟨Ao38, co38, eo38⟩ := Kd.S_slice HO266.out; subst eo38; obtain ⟨Ao39, co39, eo39⟩ := Kd.R_slice HO269.out; subst eo39; obtain ⟨Ao40, co40, eo40⟩ := Kd.R_slice HO272.out; subst eo40) | ((with_reducible refine gate_callee (f := 9) rfl ?_); refine goesL_ (some 14) rfl rfl Try.func9 (by kernel_rfl) rfl #[.agg #[.slice Ao38 t264.length co38, .slice Ao39 t267.length co39, .slice Ao40 t270.length co40]] rfl Z5 ?_; (with_reducible refine (spec_HistOk.calls k _ _ t264 _ _ t267 _ _ t270 t273 _ ?side1 ?side2 ?side3 ?side4 ?side5 ?side6 A8.out).mono ?_); (case side1 => exact Z32 HO266.out); (case side2 => exact (Kd.S_reads' HO266.out).2.1); (case side3 => exact Z19 HO269.out); (case side4 => exact (Kd.R_reads' HO269.out).2.1); (case side5 => exact Z19 HO272.out); (case side6 => exact (Kd.R_reads' HO272.out).2.1); rintro e w41 ⟨rfl, hb⟩; refine ⟨_, rfl, ?_⟩; have n0_ := A_ (Kd.S_below (Z15 HO266.out) hb); have n1_ := A_ (Kd.R_below (Z14 HO269.out) hb); have n2_ := A_ (Kd.R_below (Z14 HO272.out) hb); have n3_ := A_ (blk_below (g := gb262) (o := .cells #[.slice A0_0 l0_0.length c0_0, .slice A0_1 l0_1.length c0_1, .slice A0_2 l0_2.length c0_2] 25 (0, 0)) (Z4 BK262.out) hb); have n4_ := A_ (below_step (Z2 GE262.out) hb); clear HO266; clear HO269; clear HO272; clear BK262; clear HB; have HO266 := n0_; have HO269 := n1_; have HO272 := n2_; have BK262 := n3_; have HB := n4_; clear n0_ n1_ n2_ n3_ n4_; (try clear hb); (try clear hb2); (try clear hk); (try clear hi); have hcz42_0 : w41.cell? ⟨gb262, 0, none⟩ = some (.slice A0_0 l0_0.length c0_0) := (blk_cell BK262.out 0).trans rfl; have hcz42_1 : w41.cell? ⟨gb262, 1, none⟩ = some (.slice A0_1 l0_1.length c0_1) := (blk_cell BK262.out 1).trans rfl; have hcz42_2 : w41.cell? ⟨gb262, 2, none⟩ = some (.slice A0_2 l0_2.length c0_2) := (blk_cell BK262.out 2).trans rfl; have hfz42_0 := blk_frozen BK262.out 0; have hfz42_1 := blk_frozen BK262.out 1; have hfz42_2 := blk_frozen BK262.out 2) | ((with_reducible refine gate_callee (f := 10) rfl ?_); refine goesL_ (some 16) rfl rfl Try.func10 (by kernel_rfl) rfl #[.agg #[.slice A0_0 l0_0.length c0_0, .slice A0_1 l0_1.length c0_1, .slice A0_2 l0_2.length c0_2]] rfl Z5 ?_; (with_reducible refine (laws_toHist.calls k _ _ l0_0 _ _ l0_1 _ _ l0_2 t274 t277 t280 _ ?side1 ?side2 ?side3 ?side4 ?side5 ?side6 A9.out).mono ?_); (case side1 => exact Z3 HR0_0.out); (case side2 => exact HC0_0.out); (case side3 => exact Z3 HR0_1.out); (case side4 => exact HC0_1.out); (case side5 => exact Z3 HR0_2.out); (case side6 => exact HC0_2.out); rintro e w43 ⟨v275, v278, v281, rfl, ho0, ho1, ho2, hb⟩; refine ⟨_, rfl, ?_⟩; have n0_ := A_ (Kd.S_elder' (Z15 HO266.out) (Kd.S_base ho0) hb); have n1_ := A_ (Kd.R_mono (Kd.R_told (Kd.R_told (Kd.R_told (Kd.R_old (Z14 HO269.out) hb) (Kd.S_base ho0)) (Kd.R_base ho1)) (Kd.R_base ho2)) (fun _ h_ => h_.1)); have n2_ := A_ (Kd.R_mono (Kd.R_told (Kd.R_told (Kd.R_told (Kd.R_old (Z14 HO272.out) hb) (Kd.S_base ho0)) (Kd.R_base ho1)) (Kd.R_base ho2)) (fun _ h_ => h_.1)); have n3_ := A_ (Kd.S_lower (Kd.S_new' ho0 (Kd.S_lt (Z15 HO266.out))) (below_size (Z2 GE262.out))); have n4_ := A_ (Kd.R_lower (Kd.R_new' (Kd.R_new' (Kd.R_new' ho1 (Kd.S_lt (Z15 HO266.out))) (Kd.R_lt (Z14 HO269.out))) (Kd.R_lt (Z14 HO272.out))) (below_size (Z2 GE262.out))); have n5_ := A_ (Kd.R_lower (Kd.R_new' (Kd.R_new' (Kd.R_new' ho2 (Kd.S_lt (Z15 HO266.out))) (Kd.R_lt (Z14 HO269.out))) (Kd.R_lt (Z14 HO272.out))) (below_size (Z2 GE262.out))); have n6_ := A_ (blk_below (g := gb262) (o := .cells #[.slice A0_0 l0_0.length c0_0, .slice A0_1 l0_1.length c0_1, .slice A0_2 l0_2.length c0_2] 25 (0, 0)) (Z4 BK262.out) hb); have n7_ := A_ (below_step (Z2 GE262.out) hb); clear HO266; clear HO269; clear HO272; clear BK262; clear HB; have HO266 := n0_; have HO269 := n1_; have HO272 := n2_; have HO276 := n3_; have HO279 := n4_; have HO282 := n5_; have BK262 := n6_; have HB := n7_; clear n0_ n1_ n2_ n3_ n4_ n5_ n6_ n7_; (try clear hb); (try clear hb2); (try clear hk); (try clear hi); (try clear ho0); (try clear ho1); (try clear ho2)) | ((with_reducible refine gate_dst (N := 5) rfl ?_); refine box_event ?hg (N := 5) ?hd (cs := #[.slice none 0 0, .slice none 0 0, .slice none 0 0]) (t := 31) ?hr ?_; (case hd => rfl); (case hg => rfl); (case hr => exact Z16); intro gb283 hg w44 hbox hb; have n0_ := A_ (Kd.S_below (Z15 HO266.out) hb); have n1_ := A_ (Kd.R_below (Z14 HO269.out) hb); have n2_ := A_ (Kd.R_below (Z14 HO272.out) hb); have n3_ := A_ (Kd.S_below (Z15 HO276.out) hb); have n4_ := A_ (Kd.R_below (Z14 HO279.out) hb); have n5_ := A_ (Kd.R_below (Z14 HO282.out) hb); have n6_ := A_ (blk_below (g := gb262) (o := .cells #[.slice A0_0 l0_0.length c0_0, .slice A0_1 l0_1.length c0_1, .slice A0_2 l0_2.length c0_2] 25 (0, 0)) (Z4 BK262.out) hb); have n7_ := A_ (below_step (Z2 GE262.out) hb); have n8_ := A_ (hbox); have n9_ := A_ ((by rw [hg]; exact (below_size (Z2 GE262.out)) : w.heap.size ≤ gb283)); have n10_ := A_ ((by rw [hg]; exact (below_size (Z2 GE262.out)) : w.heap.size ≤ gb283)); have n11_ := A_ ((by rw [hg]; exact Nat.ne_of_lt (blk_lt (g := gb262) (o := .cells #[.slice A0_0 l0_0.length c0_0, .slice A0_1 l0_1.length c0_1, .slice A0_2 l0_2.length c0_2] 25 (0, 0)) (Z4 BK262.out)) : gb262 ≠ gb283)); have n12_ := A_ ((by rw [hg]; exact Nat.ne_of_gt (blk_lt (g := gb262) (o := .cells #[.slice A0_0 l0_0.length c0_0, .slice A0_1 l0_1.length c0_1, .slice A0_2 l0_2.length c0_2] 25 (0, 0)) (Z4 BK262.out)) : gb283 ≠ gb262)); clear HO266; clear HO269; clear HO272; clear HO276; clear HO279; clear HO282; clear BK262; clear HB; have HO266 := n0_; have HO269 := n1_; have HO272 := n2_; have HO276 := n3_; have HO279 := n4_; have HO282 := n5_; have BK262 := n6_; have HB := n7_; have BK283 := n8_; have GW283 := n9_; have GE283 := n10_; have NB262_283 := n11_; have NB283_262 := n12_; clear n0_ n1_ n2_ n3_ n4_ n5_ n6_ n7_ n8_ n9_ n10_ n11_ n12_; clear hb hbox hg; obtain ⟨Ao45, co45, eo45⟩ := Kd.S_slice HO276.out; subst eo45; have hnb46 := NB283_262.out; have hnc46 := NB262_283.out; have hcz47_0 : w44.cell? ⟨gb283, 0, none⟩ = some (.slice none 0 0) := (blk_cell BK283.out 0).trans rfl; have hcz47_1 : w44.cell? ⟨gb283, 1, none⟩ = some (.slice none 0 0) := (blk_cell BK283.out 1).trans rfl; have hcz47_2 : w44.cell? ⟨gb283, 2, none⟩ = some (.slice none 0 0) := (blk_cell BK283.out 2).trans rfl; have hfz47_0 := blk_frozen BK283.out 0; have hfz47_1 := blk_frozen BK283.out 1; have hfz47_2 := blk_frozen BK283.out 2; obtain ⟨Ao48, co48, eo48⟩ := Kd.R_slice HO279.out; subst eo48; obtain ⟨Ao49, co49, eo49⟩ := Kd.R_slice HO282.out; subst eo49) | ((with_reducible refine gate_callee (f := 11) rfl ?_); refine goesL_ (some 18) rfl rfl Try.func11 (by kernel_rfl) rfl #[.agg #[.slice Ao45 t274.length co45, .slice Ao48 t277.length co48, .slice Ao49 t280.length co49]] rfl Z5 ?_; (with_reducible refine (impl_HistOk.calls k _ _ t274 _ _ t277 _ _ t280 t284 _ ?side1 ?side2 ?side3 ?side4 ?side5 ?side6 A10.out).mono ?_); (case side1 => refine (Kd.S_reads' (e := 95) (base := w.heap.size) (ok := fun k_ => (True ∧ some k_ ≠ (.slice Ao38 t264.length co38 : Value).ownBlock)) (n := t274.length) (c := co45) ?_).2.2; exact (by (with_reducible repeat (first | apply Kd.S_alloc | apply Kd.S_drewN | apply Kd.S_drew)); exact (Kd.S_mono (Kd.S_far (p := ⟨gb283, 2, none⟩) (Kd.S_far (p := ⟨gb283, 1, none⟩) (Kd.S_far (p := ⟨gb283, 0, none⟩) (Kd.S_types HO276.out BK283.out (by decide)) (fun _ hk => hk.2) (.slice Ao45 t274.length co45)) (fun _ hk => hk.2) (.slice Ao48 t277.length co48)) (fun _ hk => hk.2) (.slice Ao49 t280.length co49)) (fun _ h_ => h_.1)))); (case side2 => exact (Kd.S_reads' HO276.out).2.1); (case side3 => refine (Kd.R_reads' (e := 28) (base := w.heap.size) (ok := fun k_ => ((((some k_ ≠ (.slice Ao45 t274.length co45 : Value).ownBlock ∧ some k_ ≠ (.slice Ao49 t280.length co49 : Value).ownBlock) ∧ some k_ ≠ (.slice Ao38 t264.length co38 : Value).ownBlock) ∧ some k_ ≠ (.slice Ao39 t267.length co39 : Value).ownBlock) ∧ some k_ ≠ (.slice Ao40 t270.length co40 : Value).ownBlock)) (n := t277.length) (c := co48) ?_).2.2; exact (Z21 HO279.out BK283.out)); (case side4 => exact (Kd.R_reads' HO279.out).2.1); (case side5 => refine (Kd.R_reads' (e := 28) (base := w.heap.size) (ok := fun k_ => ((((some k_ ≠ (.slice Ao45 t274.length co45 : Value).ownBlock ∧ some k_ ≠ (.slice Ao48 t277.length co48 : Value).ownBlock) ∧ some k_ ≠ (.slice Ao38 t264.length co38 : Value).ownBlock) ∧ some k_ ≠ (.slice Ao39 t267.length co39 : Value).ownBlock) ∧ some k_ ≠ (.slice Ao40 t270.length co40 : Value).ownBlock)) (n := t280.length) (c := co49) ?_).2.2; exact (Z21 HO282.out BK283.out)); (case side6 => exact (Kd.R_reads' HO282.out).2.1); rintro e w50 ⟨rfl, hb⟩; refine ⟨_, rfl, ?_⟩; have n0_ := A_ (Kd.S_below (by (with_reducible repeat (first | apply Kd.S_alloc | apply Kd.S_drewN | apply Kd.S_drew)); exact (Kd.S_mono (Kd.S_far (p := ⟨gb283, 2, none⟩) (Kd.S_far (p := ⟨gb283, 1, none⟩) (Kd.S_far (p := ⟨gb283, 0, none⟩) (Kd.S_types HO266.out BK283.out (by decide)) (fun _ hk => hk.2) (.slice Ao45 t274.length co45)) (fun _ hk => hk.2) (.slice Ao48 t277.length co48)) (fun _ hk => hk.2) (.slice Ao49 t280.length co49)) (fun _ h_ => h_.1))) hb); have n1_ := A_ (Kd.R_below (Z21 HO269.out BK283.out) hb); have n2_ := A_ (Kd.R_below (Z21 HO272.out BK283.out) hb); have n3_ := A_ (Kd.S_below (by (with_reducible repeat (first | apply Kd.S_alloc | apply Kd.S_drewN | apply Kd.S_drew)); exact (Kd.S_mono (Kd.S_far (p := ⟨gb283, 2, none⟩) (Kd.S_far (p := ⟨gb283, 1, none⟩) (Kd.S_far (p := ⟨gb283, 0, none⟩) (Kd.S_types HO276.out BK283.out (by decide)) (fun _ hk => hk.2) (.slice Ao45 t274.length co45)) (fun _ hk => hk.2) (.slice Ao48 t277.length co48)) (fun _ hk => hk.2) (.slice Ao49 t280.length co49)) (fun _ h_ => h_.1))) hb); have n4_ := A_ (Kd.R_below (Z21 HO279.out BK283.out) hb); have n5_ := A_ (Kd.R_below (Z21 HO282.out BK283.out) hb); have n6_ := A_ (blk_below (g := gb262) (o := .cells #[.slice A0_0 l0_0.length c0_0, .slice A0_1 l0_1.length c0_1, .slice A0_2 l0_2.length c0_2] 25 (0, 0)) (by (with_reducible repeat (first | refine blk_drewN ?_ _ | refine blk_drew ?_ | refine blk_alloc ?_ _)); refine blk_far ?_ NB262_283.out _; (with_reducible repeat (first | refine blk_drewN ?_ _ | refine blk_drew ?_ | refine blk_alloc ?_ _)); refine blk_far ?_ NB262_283.out _; (with_reducible repeat (first | refine blk_drewN ?_ _ | refine blk_drew ?_ | refine blk_alloc ?_ _)); refine blk_far ?_ NB262_283.out _; (with_reducible repeat (first | refine blk_drewN ?_ _ | refine blk_drew ?_ | refine blk_alloc ?_ _)); exact BK262.out) hb); have n7_ := A_ (blk_below (g := gb283) (o := .cells #[.slice Ao45 t274.length co45, .slice Ao48 t277.length co48, .slice Ao49 t280.length co49] 31 (0, 0)) (by (with_reducible repeat (first | refine blk_drewN ?_ _ | refine blk_drew ?_ | refine blk_alloc ?_ _)); refine blk_put (cs := #[.slice Ao45 t274.length co45, .slice Ao48 t277.length co48, .slice none 0 0]) ?_ 2 _ rfl; (with_reducible repeat (first | refine blk_drewN ?_ _ | refine blk_drew ?_ | refine blk_alloc ?_ _)); refine blk_put (cs := #[.slice Ao45 t274.length co45, .slice none 0 0, .slice none 0 0]) ?_ 1 _ rfl; (with_reducible repeat (first | refine blk_drewN ?_ _ | refine blk_drew ?_ | refine blk_alloc ?_ _)); refine blk_put (cs := #[.slice none 0 0, .slice none 0 0, .slice none 0 0]) ?_ 0 _ rfl; (with_reducible repeat (first | refine blk_drewN ?_ _ | refine blk_drew ?_ | refine blk_alloc ?_ _)); exact BK283.out) hb); have n8_ := A_ (below_step (Z10 GE262.out GE283.out) hb); clear HO266; clear HO269; clear HO272; clear HO276; clear HO279; clear HO282; clear BK262; clear BK283; clear HB; have HO266 := n0_; have HO269 := n1_; have HO272 := n2_; have HO276 := n3_; have HO279 := n4_; have HO282 := n5_; have BK262 := n6_; have BK283 := n7_; have HB := n8_; clear n0_ n1_ n2_ n3_ n4_ n5_ n6_ n7_ n8_; (try clear hb); (try clear hb2); (try clear hk); (try clear hi)))
    have n0_ := A_ (Kd.S_drew HO266.out)
    have n1_ := A_ (Kd.R_drew HO269.out)
    have n2_ := A_ (Kd.R_drew HO272.out)
    have n3_ := A_ (Kd.S_drew HO276.out)
    have n4_ := A_ (Kd.R_drew HO279.out)
    have n5_ := A_ (Kd.R_drew HO282.out)
    have n6_ := A_ (blk_drew BK262.out)
    have n7_ := A_ (blk_drew BK283.out)
    have n8_ := A_ (below_drew1 HB.out)
    clear HO266
    clear HO269
    clear HO272
    clear HO276
    clear HO279
    clear HO282
    clear BK262
    clear BK283
    clear HB
    have HO266 := n0_
    have HO269 := n1_
    have HO272 := n2_
    have HO276 := n3_
    have HO279 := n4_
    have HO282 := n5_
    have BK262 := n6_
    have BK283 := n7_
    have HB := n8_
    clear n0_ n1_ n2_ n3_ n4_ n5_ n6_ n7_ n8_
    refine start_ (n := 5) (S := fun w' => w'.cell? ⟨gb283, 0, none⟩ = some (.slice Ao45 t274.length co45) ∧ w'.cell? ⟨gb283, 1, none⟩ = some (.slice Ao48 t277.length co48) ∧ w'.cell? ⟨gb283, 2, none⟩ = some (.slice Ao49 t280.length co49) ∧ w'.cell? ⟨gb262, 0, none⟩ = some (.slice A0_0 l0_0.length c0_0) ∧ w'.cell? ⟨gb262, 1, none⟩ = some (.slice A0_1 l0_1.length c0_1) ∧ w'.cell? ⟨gb262, 2, none⟩ = some (.slice A0_2 l0_2.length c0_2)) (ds := []) #[F,F,F,F,F] (by kernel_rfl) rfl rfl ⟨(blk_cell BK283.out 0).trans rfl, (blk_cell BK283.out 1).trans rfl, (blk_cell BK283.out 2).trans rfl, (blk_cell BK262.out 0).trans rfl, (blk_cell BK262.out 1).trans rfl, (blk_cell BK262.out 2).trans rfl⟩ (fun hHeld => ?_)
    generalize w50.drew = w51 at HO266 HO269 HO272 HO276 HO279 HO282 BK262 BK283 HB hHeld ⊢
    refine take_ (i := 0) (N := some 22) (v := ?_) (a' := ?_) #[T,F,F,F,F] rfl rfl (by kernel_rfl) ZF (Or.inl ⟨by rfl, ?_⟩) hHeld ?_ ?_
    rotate_left
    ·exact Z34
    rotate_left
    ·exact Z0
    refine take_ (i := 1) (N := some 23) (v := ?_) (a' := ?_) #[T,T,F,F,F] rfl rfl (by kernel_rfl) ZF (Or.inl ⟨by rfl, ?_⟩) hHeld ?_ ?_
    rotate_left
    ·exact Z34
    rotate_left
    ·exact Z0
    refine one_ (i := 2) (N := some 24) #[T,T,T,F,F] rfl rfl (by kernel_rfl) (by decide) (fun K hK => ?_)
    refine goes_ Try.func10 (by kernel_rfl) rfl #[.agg #[.slice A0_0 l0_0.length c0_0, .slice A0_1 l0_1.length c0_1, .slice A0_2 l0_2.length c0_2]] (by rfl) rfl rfl Z5 ?_
    with_reducible refine (laws_toHist.calls k _ _ l0_0 _ _ l0_1 _ _ l0_2 t285 t288 t291 _ ?side1 ?side2 ?side3 ?side4 ?side5 ?side6 A30.out).mono ?_
    (case side1 => exact Z3 HR0_0.out)
    (case side2 => exact HC0_0.out)
    (case side3 => exact Z3 HR0_1.out)
    (case side4 => exact HC0_1.out)
    (case side5 => exact Z3 HR0_2.out)
    (case side6 => exact HC0_2.out)
    rintro e w52 ⟨v286, v289, v292, rfl, ho0, ho1, ho2, hb⟩
    refine ⟨_, rfl, ?_⟩
    have n0_ := A_ (Kd.S_elder' (Z15 HO266.out) (Kd.S_base ho0) hb)
    have n1_ := A_ (Kd.R_mono (Kd.R_told (Kd.R_told (Kd.R_told (Kd.R_old (Z14 HO269.out) hb) (Kd.S_base ho0)) (Kd.R_base ho1)) (Kd.R_base ho2)) (fun _ h_ => h_.1))
    have n2_ := A_ (Kd.R_mono (Kd.R_told (Kd.R_told (Kd.R_told (Kd.R_old (Z14 HO272.out) hb) (Kd.S_base ho0)) (Kd.R_base ho1)) (Kd.R_base ho2)) (fun _ h_ => h_.1))
    have n3_ := A_ (Kd.S_elder' (Z15 HO276.out) (Kd.S_base ho0) hb)
    have n4_ := A_ (Kd.R_mono (Kd.R_told (Kd.R_told (Kd.R_told (Kd.R_old (Z14 HO279.out) hb) (Kd.S_base ho0)) (Kd.R_base ho1)) (Kd.R_base ho2)) (fun _ h_ => h_.1))
    have n5_ := A_ (Kd.R_mono (Kd.R_told (Kd.R_told (Kd.R_told (Kd.R_old (Z14 HO282.out) hb) (Kd.S_base ho0)) (Kd.R_base ho1)) (Kd.R_base ho2)) (fun _ h_ => h_.1))
    have n6_ := A_ (Kd.S_lower (Kd.S_new' (Kd.S_new' ho0 (Kd.S_lt (Z15 HO266.out))) (Kd.S_lt (Z15 HO276.out))) (below_size (Z10 GE262.out GE283.out)))
    have n7_ := A_ (Kd.R_lower (Kd.R_new' (Kd.R_new' (Kd.R_new' (Kd.R_new' (Kd.R_new' (Kd.R_new' ho1 (Kd.S_lt (Z15 HO266.out))) (Kd.R_lt (Z14 HO269.out))) (Kd.R_lt (Z14 HO272.out))) (Kd.S_lt (Z15 HO276.out))) (Kd.R_lt (Z14 HO279.out))) (Kd.R_lt (Z14 HO282.out))) (below_size (Z10 GE262.out GE283.out)))
    have n8_ := A_ (Kd.R_lower (Kd.R_new' (Kd.R_new' (Kd.R_new' (Kd.R_new' (Kd.R_new' (Kd.R_new' ho2 (Kd.S_lt (Z15 HO266.out))) (Kd.R_lt (Z14 HO269.out))) (Kd.R_lt (Z14 HO272.out))) (Kd.S_lt (Z15 HO276.out))) (Kd.R_lt (Z14 HO279.out))) (Kd.R_lt (Z14 HO282.out))) (below_size (Z10 GE262.out GE283.out)))
    have n9_ := A_ (blk_below (g := gb262) (o := .cells #[.slice A0_0 l0_0.length c0_0, .slice A0_1 l0_1.length c0_1, .slice A0_2 l0_2.length c0_2] 25 (0, 0)) (Z4 BK262.out) hb)
    have n10_ := A_ (blk_below (g := gb283) (o := .cells #[.slice Ao45 t274.length co45, .slice Ao48 t277.length co48, .slice Ao49 t280.length co49] 31 (0, 0)) (Z4 BK283.out) hb)
    have n11_ := A_ (below_step (Z10 GE262.out GE283.out) hb)
    clear HO266
    clear HO269
    clear HO272
    clear HO276
    clear HO279
    clear HO282
    clear BK262
    clear BK283
    clear HB
    have HO266 := n0_
    have HO269 := n1_
    have HO272 := n2_
    have HO276 := n3_
    have HO279 := n4_
    have HO282 := n5_
    have HO287 := n6_
    have HO290 := n7_
    have HO293 := n8_
    have BK262 := n9_
    have BK283 := n10_
    have HB := n11_
    clear n0_ n1_ n2_ n3_ n4_ n5_ n6_ n7_ n8_ n9_ n10_ n11_
    (try clear hb)
    (try clear hb2)
    (try clear hk)
    (try clear hi)
    (try clear ho0)
    (try clear ho1)
    (try clear ho2)
    obtain ⟨Ao53, co53, eo53⟩ := Kd.S_slice HO287.out
    (first | subst eo53 | (injection eo53 with f1_ f2_ f3_; have f4_ := f1_.symm; have f5_ := f3_.symm; clear f1_ f2_ f3_; subst f4_; subst f5_))
    obtain ⟨Ao54, co54, eo54⟩ := Kd.R_slice HO290.out
    (first | subst eo54 | (injection eo54 with f1_ f2_ f3_; have f4_ := f1_.symm; have f5_ := f3_.symm; clear f1_ f2_ f3_; subst f4_; subst f5_))
    obtain ⟨Ao55, co55, eo55⟩ := Kd.R_slice HO293.out
    (first | subst eo55 | (injection eo55 with f1_ f2_ f3_; have f4_ := f1_.symm; have f5_ := f3_.symm; clear f1_ f2_ f3_; subst f4_; subst f5_))
    refine hK.out _ _ ⟨(blk_cell BK283.out 0).trans rfl, (blk_cell BK283.out 1).trans rfl, (blk_cell BK283.out 2).trans rfl, (blk_cell BK262.out 0).trans rfl, (blk_cell BK262.out 1).trans rfl, (blk_cell BK262.out 2).trans rfl⟩ (fun hHeld => ?_)
    clear hK K
    refine norm_ (a' := ?_) ?_ ?_
    rotate_left
    ·show Act.put _ (some 24) _ = _
     simp only [Act.put, List.setIfInBounds_toArray, List.set_cons_zero, List.set_cons_succ, i64_w, i32_w]
     rfl
    refine one_ (i := 3) (N := some 25) #[T,T,T,T,F] rfl rfl (by kernel_rfl) (by decide) (fun K hK => ?_)
    refine goes_ Try.func12 (by kernel_rfl) rfl #[.agg #[.slice Ao45 t274.length co45, .slice Ao48 t277.length co48, .slice Ao49 t280.length co49], .agg #[.slice Ao53 t285.length co53, .slice Ao54 t288.length co54, .slice Ao55 t291.length co55]] (by rfl) rfl rfl Z5 ?_
    with_reducible refine (laws_eqHist.calls k _ _ t274 _ _ t277 _ _ t280 _ _ t285 _ _ t288 _ _ t291 true _ ?side1 ?side2 ?side3 ?side4 ?side5 ?side6 ?side7 ?side8 ?side9 ?side10 ?side11 ?side12 A31.out).mono ?_
    (case side1 => exact Z32 HO276.out)
    (case side2 => exact (Kd.S_reads' HO276.out).2.1)
    (case side3 => exact Z19 HO279.out)
    (case side4 => exact (Kd.R_reads' HO279.out).2.1)
    (case side5 => exact Z19 HO282.out)
    (case side6 => exact (Kd.R_reads' HO282.out).2.1)
    (case side7 => exact Z32 HO287.out)
    (case side8 => exact (Kd.S_reads' HO287.out).2.1)
    (case side9 => exact Z19 HO290.out)
    (case side10 => exact (Kd.R_reads' HO290.out).2.1)
    (case side11 => exact Z19 HO293.out)
    (case side12 => exact (Kd.R_reads' HO293.out).2.1)
    rintro e w56 ⟨rfl, hb⟩
    refine ⟨_, rfl, ?_⟩
    have n0_ := A_ (Kd.S_below (Z15 HO266.out) hb)
    have n1_ := A_ (Kd.R_below (Z14 HO269.out) hb)
    have n2_ := A_ (Kd.R_below (Z14 HO272.out) hb)
    have n3_ := A_ (Kd.S_below (Z15 HO276.out) hb)
    have n4_ := A_ (Kd.R_below (Z14 HO279.out) hb)
    have n5_ := A_ (Kd.R_below (Z14 HO282.out) hb)
    have n6_ := A_ (Kd.S_below (Z15 HO287.out) hb)
    have n7_ := A_ (Kd.R_below (Z14 HO290.out) hb)
    have n8_ := A_ (Kd.R_below (Z14 HO293.out) hb)
    have n9_ := A_ (blk_below (g := gb262) (o := .cells #[.slice A0_0 l0_0.length c0_0, .slice A0_1 l0_1.length c0_1, .slice A0_2 l0_2.length c0_2] 25 (0, 0)) (Z4 BK262.out) hb)
    have n10_ := A_ (blk_below (g := gb283) (o := .cells #[.slice Ao45 t274.length co45, .slice Ao48 t277.length co48, .slice Ao49 t280.length co49] 31 (0, 0)) (Z4 BK283.out) hb)
    have n11_ := A_ (below_step (Z10 GE262.out GE283.out) hb)
    clear HO266
    clear HO269
    clear HO272
    clear HO276
    clear HO279
    clear HO282
    clear HO287
    clear HO290
    clear HO293
    clear BK262
    clear BK283
    clear HB
    have HO266 := n0_
    have HO269 := n1_
    have HO272 := n2_
    have HO276 := n3_
    have HO279 := n4_
    have HO282 := n5_
    have HO287 := n6_
    have HO290 := n7_
    have HO293 := n8_
    have BK262 := n9_
    have BK283 := n10_
    have HB := n11_
    clear n0_ n1_ n2_ n3_ n4_ n5_ n6_ n7_ n8_ n9_ n10_ n11_
    (try clear hb)
    (try clear hb2)
    (try clear hk)
    (try clear hi)
    refine hK.out _ _ ⟨(blk_cell BK283.out 0).trans rfl, (blk_cell BK283.out 1).trans rfl, (blk_cell BK283.out 2).trans rfl, (blk_cell BK262.out 0).trans rfl, (blk_cell BK262.out 1).trans rfl, (blk_cell BK262.out 2).trans rfl⟩ (fun hHeld => ?_)
    clear hK K
    refine norm_ (a' := ?_) ?_ ?_
    rotate_left
    ·exact Z25
    refine pure_ (i := 4) (N := some 26) (v := ?_) (a' := ?_) #[T,T,T,T,T] rfl rfl (by kernel_rfl) ZF (Or.inl ⟨by rfl, ?_⟩) ?_ ?_
    rotate_left
    ·exact Z13
    rotate_left
    ·exact Z0
    refine done_ (by kernel_rfl) ?_
    try go_wp2
    go_ret
    exact ⟨Z11, Z10 GE262.out GE283.out⟩
   ·replace c32 := Bool.eq_false_iff.mpr c32
    subst c32
    have H1 : (some false) = some r := by rw [if_neg (show ¬ (false = true) by decide)] at H; exact H
    clear H
    have H := H1
    clear H1
    obtain rfl := Option.some.inj H
    go_enter Try.func3, Try.ntmps3
    try go_wp2_with (first | ((with_reducible refine gate_dst (N := 1) rfl ?_); refine box_event ?hg (N := 1) ?hd (cs := #[.slice A0_0 l0_0.length c0_0, .slice A0_1 l0_1.length c0_1, .slice A0_2 l0_2.length c0_2]) (t := 25) ?hr ?_; (case hd => rfl); (case hg => rfl); (case hr => exact Z16); intro gb262 hg w57 hbox hb; have n0_ := A_ (below_step Z1 hb); have n1_ := A_ (hbox); have n2_ := A_ ((by rw [hg]; exact (below_size Z1) : w.heap.size ≤ gb262)); have n3_ := A_ ((by rw [hg]; exact (below_size Z1) : w.heap.size ≤ gb262)); clear HB; have HB := n0_; have BK262 := n1_; have GW262 := n2_; have GE262 := n3_; clear n0_ n1_ n2_ n3_; clear hb hbox hg; have hcz58_0 : w57.cell? ⟨gb262, 0, none⟩ = some (.slice A0_0 l0_0.length c0_0) := (blk_cell BK262.out 0).trans rfl; have hcz58_1 : w57.cell? ⟨gb262, 1, none⟩ = some (.slice A0_1 l0_1.length c0_1) := (blk_cell BK262.out 1).trans rfl; have hcz58_2 : w57.cell? ⟨gb262, 2, none⟩ = some (.slice A0_2 l0_2.length c0_2) := (blk_cell BK262.out 2).trans rfl; have hfz58_0 := blk_frozen BK262.out 0; have hfz58_1 := blk_frozen BK262.out 1; have hfz58_2 := blk_frozen BK262.out 2) | ((with_reducible refine gate_callee (f := 8) rfl ?_); refine goesL_ (some 9) rfl rfl Try.func8 (by kernel_rfl) rfl #[.agg #[.slice A0_0 l0_0.length c0_0, .slice A0_1 l0_1.length c0_1, .slice A0_2 l0_2.length c0_2], .int .i64 1048576] rfl Z5 ?_; (with_reducible refine (laws_szHist.calls k _ _ l0_0 _ _ l0_1 _ _ l0_2 1048576 t263 _ ?side1 ?side2 ?side3 ?side4 ?side5 ?side6 A2.out).mono ?_); (case side1 => exact Z3 HR0_0.out); (case side2 => exact HC0_0.out); (case side3 => exact Z3 HR0_1.out); (case side4 => exact HC0_1.out); (case side5 => exact Z3 HR0_2.out); (case side6 => exact HC0_2.out); rintro e w59 ⟨rfl, hb⟩; refine ⟨_, rfl, ?_⟩; have n0_ := A_ (blk_below (g := gb262) (o := .cells #[.slice A0_0 l0_0.length c0_0, .slice A0_1 l0_1.length c0_1, .slice A0_2 l0_2.length c0_2] 25 (0, 0)) (Z4 BK262.out) hb); have n1_ := A_ (below_step (Z2 GE262.out) hb); clear BK262; clear HB; have BK262 := n0_; have HB := n1_; clear n0_ n1_; (try clear hb); (try clear hb2); (try clear hk); (try clear hi); have hcz60_0 : w59.cell? ⟨gb262, 0, none⟩ = some (.slice A0_0 l0_0.length c0_0) := (blk_cell BK262.out 0).trans rfl; have hcz60_1 : w59.cell? ⟨gb262, 1, none⟩ = some (.slice A0_1 l0_1.length c0_1) := (blk_cell BK262.out 1).trans rfl; have hcz60_2 : w59.cell? ⟨gb262, 2, none⟩ = some (.slice A0_2 l0_2.length c0_2) := (blk_cell BK262.out 2).trans rfl; have hfz60_0 := blk_frozen BK262.out 0; have hfz60_1 := blk_frozen BK262.out 1; have hfz60_2 := blk_frozen BK262.out 2) | ((with_reducible refine gate_callee (f := 10) rfl ?_); refine goesL_ (some 13) rfl rfl Try.func10 (by kernel_rfl) rfl #[.agg #[.slice A0_0 l0_0.length c0_0, .slice A0_1 l0_1.length c0_1, .slice A0_2 l0_2.length c0_2]] rfl Z5 ?_; (with_reducible refine (laws_toHist.calls k _ _ l0_0 _ _ l0_1 _ _ l0_2 t264 t267 t270 _ ?side1 ?side2 ?side3 ?side4 ?side5 ?side6 A7.out).mono ?_); (case side1 => exact Z3 HR0_0.out); (case side2 => exact HC0_0.out); (case side3 => exact Z3 HR0_1.out); (case side4 => exact HC0_1.out); (case side5 => exact Z3 HR0_2.out); (case side6 => exact HC0_2.out); rintro e w61 ⟨v265, v268, v271, rfl, ho0, ho1, ho2, hb⟩; refine ⟨_, rfl, ?_⟩; have n0_ := A_ (Kd.S_lower ho0 (below_size (Z2 GE262.out))); have n1_ := A_ (Kd.R_lower ho1 (below_size (Z2 GE262.out))); have n2_ := A_ (Kd.R_lower ho2 (below_size (Z2 GE262.out))); have n3_ := A_ (blk_below (g := gb262) (o := .cells #[.slice A0_0 l0_0.length c0_0, .slice A0_1 l0_1.length c0_1, .slice A0_2 l0_2.length c0_2] 25 (0, 0)) (Z4 BK262.out) hb); have n4_ := A_ (below_step (Z2 GE262.out) hb); clear BK262; clear HB; have HO266 := n0_; have HO269 := n1_; have HO272 := n2_; have BK262 := n3_; have HB := n4_; clear n0_ n1_ n2_ n3_ n4_; (try clear hb); (try clear hb2); (try clear hk); (try clear hi); (try clear ho0); (try clear ho1); (try clear ho2); obtain ⟨Ao62, co62, eo62⟩ := Kd.S_slice HO266.out; subst eo62; obtain ⟨Ao63, co63, eo63⟩ := Kd.R_slice HO269.out; subst eo63; obtain ⟨Ao64, co64, eo64⟩ := Kd.R_slice HO272.out; subst eo64) | ((with_reducible refine gate_callee (f := 9) rfl ?_); refine goesL_ (some 14) rfl rfl Try.func9 (by kernel_rfl) rfl #[.agg #[.slice Ao62 t264.length co62, .slice Ao63 t267.length co63, .slice Ao64 t270.length co64]] rfl Z5 ?_; (with_reducible refine (spec_HistOk.calls k _ _ t264 _ _ t267 _ _ t270 t273 _ ?side1 ?side2 ?side3 ?side4 ?side5 ?side6 A8.out).mono ?_); (case side1 => exact Z32 HO266.out); (case side2 => exact (Kd.S_reads' HO266.out).2.1); (case side3 => exact Z19 HO269.out); (case side4 => exact (Kd.R_reads' HO269.out).2.1); (case side5 => exact Z19 HO272.out); (case side6 => exact (Kd.R_reads' HO272.out).2.1); rintro e w65 ⟨rfl, hb⟩; refine ⟨_, rfl, ?_⟩; have n0_ := A_ (Kd.S_below (Z15 HO266.out) hb); have n1_ := A_ (Kd.R_below (Z14 HO269.out) hb); have n2_ := A_ (Kd.R_below (Z14 HO272.out) hb); have n3_ := A_ (blk_below (g := gb262) (o := .cells #[.slice A0_0 l0_0.length c0_0, .slice A0_1 l0_1.length c0_1, .slice A0_2 l0_2.length c0_2] 25 (0, 0)) (Z4 BK262.out) hb); have n4_ := A_ (below_step (Z2 GE262.out) hb); clear HO266; clear HO269; clear HO272; clear BK262; clear HB; have HO266 := n0_; have HO269 := n1_; have HO272 := n2_; have BK262 := n3_; have HB := n4_; clear n0_ n1_ n2_ n3_ n4_; (try clear hb); (try clear hb2); (try clear hk); (try clear hi); have hcz66_0 : w65.cell? ⟨gb262, 0, none⟩ = some (.slice A0_0 l0_0.length c0_0) := (blk_cell BK262.out 0).trans rfl; have hcz66_1 : w65.cell? ⟨gb262, 1, none⟩ = some (.slice A0_1 l0_1.length c0_1) := (blk_cell BK262.out 1).trans rfl; have hcz66_2 : w65.cell? ⟨gb262, 2, none⟩ = some (.slice A0_2 l0_2.length c0_2) := (blk_cell BK262.out 2).trans rfl; have hfz66_0 := blk_frozen BK262.out 0; have hfz66_1 := blk_frozen BK262.out 1; have hfz66_2 := blk_frozen BK262.out 2) | ((with_reducible refine gate_callee (f := 10) rfl ?_); refine goesL_ (some 16) rfl rfl Try.func10 (by kernel_rfl) rfl #[.agg #[.slice A0_0 l0_0.length c0_0, .slice A0_1 l0_1.length c0_1, .slice A0_2 l0_2.length c0_2]] rfl Z5 ?_; (with_reducible refine (laws_toHist.calls k _ _ l0_0 _ _ l0_1 _ _ l0_2 t274 t277 t280 _ ?side1 ?side2 ?side3 ?side4 ?side5 ?side6 A9.out).mono ?_); (case side1 => exact Z3 HR0_0.out); (case side2 => exact HC0_0.out); (case side3 => exact Z3 HR0_1.out); (case side4 => exact HC0_1.out); (case side5 => exact Z3 HR0_2.out); (case side6 => exact HC0_2.out); rintro e w67 ⟨v275, v278, v281, rfl, ho0, ho1, ho2, hb⟩; refine ⟨_, rfl, ?_⟩; have n0_ := A_ (Kd.S_elder' (Z15 HO266.out) (Kd.S_base ho0) hb); have n1_ := A_ (Kd.R_mono (Kd.R_told (Kd.R_told (Kd.R_told (Kd.R_old (Z14 HO269.out) hb) (Kd.S_base ho0)) (Kd.R_base ho1)) (Kd.R_base ho2)) (fun _ h_ => h_.1)); have n2_ := A_ (Kd.R_mono (Kd.R_told (Kd.R_told (Kd.R_told (Kd.R_old (Z14 HO272.out) hb) (Kd.S_base ho0)) (Kd.R_base ho1)) (Kd.R_base ho2)) (fun _ h_ => h_.1)); have n3_ := A_ (Kd.S_lower (Kd.S_new' ho0 (Kd.S_lt (Z15 HO266.out))) (below_size (Z2 GE262.out))); have n4_ := A_ (Kd.R_lower (Kd.R_new' (Kd.R_new' (Kd.R_new' ho1 (Kd.S_lt (Z15 HO266.out))) (Kd.R_lt (Z14 HO269.out))) (Kd.R_lt (Z14 HO272.out))) (below_size (Z2 GE262.out))); have n5_ := A_ (Kd.R_lower (Kd.R_new' (Kd.R_new' (Kd.R_new' ho2 (Kd.S_lt (Z15 HO266.out))) (Kd.R_lt (Z14 HO269.out))) (Kd.R_lt (Z14 HO272.out))) (below_size (Z2 GE262.out))); have n6_ := A_ (blk_below (g := gb262) (o := .cells #[.slice A0_0 l0_0.length c0_0, .slice A0_1 l0_1.length c0_1, .slice A0_2 l0_2.length c0_2] 25 (0, 0)) (Z4 BK262.out) hb); have n7_ := A_ (below_step (Z2 GE262.out) hb); clear HO266; clear HO269; clear HO272; clear BK262; clear HB; have HO266 := n0_; have HO269 := n1_; have HO272 := n2_; have HO276 := n3_; have HO279 := n4_; have HO282 := n5_; have BK262 := n6_; have HB := n7_; clear n0_ n1_ n2_ n3_ n4_ n5_ n6_ n7_; (try clear hb); (try clear hb2); (try clear hk); (try clear hi); (try clear ho0); (try clear ho1); (try clear ho2)) | ((with_reducible refine gate_dst (N := 5) rfl ?_); refine box_event ?hg (N := 5) ?hd (cs := #[.slice none 0 0, .slice none 0 0, .slice none 0 0]) (t := 31) ?hr ?_; (case hd => rfl); (case hg => rfl); (case hr => exact Z16); intro gb283 hg w68 hbox hb; have n0_ := A_ (Kd.S_below (Z15 HO266.out) hb); have n1_ := A_ (Kd.R_below (Z14 HO269.out) hb); have n2_ := A_ (Kd.R_below (Z14 HO272.out) hb); have n3_ := A_ (Kd.S_below (Z15 HO276.out) hb); have n4_ := A_ (Kd.R_below (Z14 HO279.out) hb); have n5_ := A_ (Kd.R_below (Z14 HO282.out) hb); have n6_ := A_ (blk_below (g := gb262) (o := .cells #[.slice A0_0 l0_0.length c0_0, .slice A0_1 l0_1.length c0_1, .slice A0_2 l0_2.length c0_2] 25 (0, 0)) (Z4 BK262.out) hb); have n7_ := A_ (below_step (Z2 GE262.out) hb); have n8_ := A_ (hbox); have n9_ := A_ ((by rw [hg]; exact (below_size (Z2 GE262.out)) : w.heap.size ≤ gb283)); have n10_ := A_ ((by rw [hg]; exact (below_size (Z2 GE262.out)) : w.heap.size ≤ gb283)); have n11_ := A_ ((by rw [hg]; exact Nat.ne_of_lt (blk_lt (g := gb262) (o := .cells #[.slice A0_0 l0_0.length c0_0, .slice A0_1 l0_1.length c0_1, .slice A0_2 l0_2.length c0_2] 25 (0, 0)) (Z4 BK262.out)) : gb262 ≠ gb283)); have n12_ := A_ ((by rw [hg]; exact Nat.ne_of_gt (blk_lt (g := gb262) (o := .cells #[.slice A0_0 l0_0.length c0_0, .slice A0_1 l0_1.length c0_1, .slice A0_2 l0_2.length c0_2] 25 (0, 0)) (Z4 BK262.out)) : gb283 ≠ gb262)); clear HO266; clear HO269; clear HO272; clear HO276; clear HO279; clear HO282; clear BK262; clear HB; have HO266 := n0_; have HO269 := n1_; have HO272 := n2_; have HO276 := n3_; have HO279 := n4_; have HO282 := n5_; have BK262 := n6_; have HB := n7_; have BK283 := n8_; have GW283 := n9_; have GE283 := n10_; have NB262_283 := n11_; have NB283_262 := n12_; clear n0_ n1_ n2_ n3_ n4_ n5_ n6_ n7_ n8_ n9_ n10_ n11_ n12_; clear hb hbox hg; obtain ⟨Ao69, co69, eo69⟩ := Kd.S_slice HO276.out; subst eo69; have hnb70 := NB283_262.out; have hnc70 := NB262_283.out; have hcz71_0 : w68.cell? ⟨gb283, 0, none⟩ = some (.slice none 0 0) := (blk_cell BK283.out 0).trans rfl; have hcz71_1 : w68.cell? ⟨gb283, 1, none⟩ = some (.slice none 0 0) := (blk_cell BK283.out 1).trans rfl; have hcz71_2 : w68.cell? ⟨gb283, 2, none⟩ = some (.slice none 0 0) := (blk_cell BK283.out 2).trans rfl; have hfz71_0 := blk_frozen BK283.out 0; have hfz71_1 := blk_frozen BK283.out 1; have hfz71_2 := blk_frozen BK283.out 2; obtain ⟨Ao72, co72, eo72⟩ := Kd.R_slice HO279.out; subst eo72; obtain ⟨Ao73, co73, eo73⟩ := Kd.R_slice HO282.out; subst eo73) | ((with_reducible refine gate_callee (f := 11) rfl ?_); refine goesL_ (some 18) rfl rfl Try.func11 (by kernel_rfl) rfl #[.agg #[.slice Ao69 t274.length co69, .slice Ao72 t277.length co72, .slice Ao73 t280.length co73]] rfl Z5 ?_; (with_reducible refine (impl_HistOk.calls k _ _ t274 _ _ t277 _ _ t280 t284 _ ?side1 ?side2 ?side3 ?side4 ?side5 ?side6 A10.out).mono ?_); (case side1 => refine (Kd.S_reads' (e := 95) (base := w.heap.size) (ok := fun k_ => (True ∧ some k_ ≠ (.slice Ao62 t264.length co62 : Value).ownBlock)) (n := t274.length) (c := co69) ?_).2.2; exact (by (with_reducible repeat (first | apply Kd.S_alloc | apply Kd.S_drewN | apply Kd.S_drew)); exact (Kd.S_mono (Kd.S_far (p := ⟨gb283, 2, none⟩) (Kd.S_far (p := ⟨gb283, 1, none⟩) (Kd.S_far (p := ⟨gb283, 0, none⟩) (Kd.S_types HO276.out BK283.out (by decide)) (fun _ hk => hk.2) (.slice Ao69 t274.length co69)) (fun _ hk => hk.2) (.slice Ao72 t277.length co72)) (fun _ hk => hk.2) (.slice Ao73 t280.length co73)) (fun _ h_ => h_.1)))); (case side2 => exact (Kd.S_reads' HO276.out).2.1); (case side3 => refine (Kd.R_reads' (e := 28) (base := w.heap.size) (ok := fun k_ => ((((some k_ ≠ (.slice Ao69 t274.length co69 : Value).ownBlock ∧ some k_ ≠ (.slice Ao73 t280.length co73 : Value).ownBlock) ∧ some k_ ≠ (.slice Ao62 t264.length co62 : Value).ownBlock) ∧ some k_ ≠ (.slice Ao63 t267.length co63 : Value).ownBlock) ∧ some k_ ≠ (.slice Ao64 t270.length co64 : Value).ownBlock)) (n := t277.length) (c := co72) ?_).2.2; exact (Z20 HO279.out BK283.out)); (case side4 => exact (Kd.R_reads' HO279.out).2.1); (case side5 => refine (Kd.R_reads' (e := 28) (base := w.heap.size) (ok := fun k_ => ((((some k_ ≠ (.slice Ao69 t274.length co69 : Value).ownBlock ∧ some k_ ≠ (.slice Ao72 t277.length co72 : Value).ownBlock) ∧ some k_ ≠ (.slice Ao62 t264.length co62 : Value).ownBlock) ∧ some k_ ≠ (.slice Ao63 t267.length co63 : Value).ownBlock) ∧ some k_ ≠ (.slice Ao64 t270.length co64 : Value).ownBlock)) (n := t280.length) (c := co73) ?_).2.2; exact (Z20 HO282.out BK283.out)); (case side6 => exact (Kd.R_reads' HO282.out).2.1); rintro e w74 ⟨rfl, hb⟩; refine ⟨_, rfl, ?_⟩; have n0_ := A_ (Kd.S_below (by (with_reducible repeat (first | apply Kd.S_alloc | apply Kd.S_drewN | apply Kd.S_drew)); exact (Kd.S_mono (Kd.S_far (p := ⟨gb283, 2, none⟩) (Kd.S_far (p := ⟨gb283, 1, none⟩) (Kd.S_far (p := ⟨gb283, 0, none⟩) (Kd.S_types HO266.out BK283.out (by decide)) (fun _ hk => hk.2) (.slice Ao69 t274.length co69)) (fun _ hk => hk.2) (.slice Ao72 t277.length co72)) (fun _ hk => hk.2) (.slice Ao73 t280.length co73)) (fun _ h_ => h_.1))) hb); have n1_ := A_ (Kd.R_below (Z20 HO269.out BK283.out) hb); have n2_ := A_ (Kd.R_below (Z20 HO272.out BK283.out) hb); have n3_ := A_ (Kd.S_below (by (with_reducible repeat (first | apply Kd.S_alloc | apply Kd.S_drewN | apply Kd.S_drew)); exact (Kd.S_mono (Kd.S_far (p := ⟨gb283, 2, none⟩) (Kd.S_far (p := ⟨gb283, 1, none⟩) (Kd.S_far (p := ⟨gb283, 0, none⟩) (Kd.S_types HO276.out BK283.out (by decide)) (fun _ hk => hk.2) (.slice Ao69 t274.length co69)) (fun _ hk => hk.2) (.slice Ao72 t277.length co72)) (fun _ hk => hk.2) (.slice Ao73 t280.length co73)) (fun _ h_ => h_.1))) hb); have n4_ := A_ (Kd.R_below (Z20 HO279.out BK283.out) hb); have n5_ := A_ (Kd.R_below (Z20 HO282.out BK283.out) hb); have n6_ := A_ (blk_below (g := gb262) (o := .cells #[.slice A0_0 l0_0.length c0_0, .slice A0_1 l0_1.length c0_1, .slice A0_2 l0_2.length c0_2] 25 (0, 0)) (by (with_reducible repeat (first | refine blk_drewN ?_ _ | refine blk_drew ?_ | refine blk_alloc ?_ _)); refine blk_far ?_ NB262_283.out _; (with_reducible repeat (first | refine blk_drewN ?_ _ | refine blk_drew ?_ | refine blk_alloc ?_ _)); refine blk_far ?_ NB262_283.out _; (with_reducible repeat (first | refine blk_drewN ?_ _ | refine blk_drew ?_ | refine blk_alloc ?_ _)); refine blk_far ?_ NB262_283.out _; (with_reducible repeat (first | refine blk_drewN ?_ _ | refine blk_drew ?_ | refine blk_alloc ?_ _)); exact BK262.out) hb); have n7_ := A_ (blk_below (g := gb283) (o := .cells #[.slice Ao69 t274.length co69, .slice Ao72 t277.length co72, .slice Ao73 t280.length co73] 31 (0, 0)) (by (with_reducible repeat (first | refine blk_drewN ?_ _ | refine blk_drew ?_ | refine blk_alloc ?_ _)); refine blk_put (cs := #[.slice Ao69 t274.length co69, .slice Ao72 t277.length co72, .slice none 0 0]) ?_ 2 _ rfl; (with_reducible repeat (first | refine blk_drewN ?_ _ | refine blk_drew ?_ | refine blk_alloc ?_ _)); refine blk_put (cs := #[.slice Ao69 t274.length co69, .slice none 0 0, .slice none 0 0]) ?_ 1 _ rfl; (with_reducible repeat (first | refine blk_drewN ?_ _ | refine blk_drew ?_ | refine blk_alloc ?_ _)); refine blk_put (cs := #[.slice none 0 0, .slice none 0 0, .slice none 0 0]) ?_ 0 _ rfl; (with_reducible repeat (first | refine blk_drewN ?_ _ | refine blk_drew ?_ | refine blk_alloc ?_ _)); exact BK283.out) hb); have n8_ := A_ (below_step (Z10 GE262.out GE283.out) hb); clear HO266; clear HO269; clear HO272; clear HO276; clear HO279; clear HO282; clear BK262; clear BK283; clear HB; have HO266 := n0_; have HO269 := n1_; have HO272 := n2_; have HO276 := n3_; have HO279 := n4_; have HO282 := n5_; have BK262 := n6_; have BK283 := n7_; have HB := n8_; clear n0_ n1_ n2_ n3_ n4_ n5_ n6_ n7_ n8_; (try clear hb); (try clear hb2); (try clear hk); (try clear hi)))
    have n0_ := A_ (Kd.S_drew HO266.out)
    have n1_ := A_ (Kd.R_drew HO269.out)
    have n2_ := A_ (Kd.R_drew HO272.out)
    have n3_ := A_ (Kd.S_drew HO276.out)
    have n4_ := A_ (Kd.R_drew HO279.out)
    have n5_ := A_ (Kd.R_drew HO282.out)
    have n6_ := A_ (blk_drew BK262.out)
    have n7_ := A_ (blk_drew BK283.out)
    have n8_ := A_ (below_drew1 HB.out)
    clear HO266
    clear HO269
    clear HO272
    clear HO276
    clear HO279
    clear HO282
    clear BK262
    clear BK283
    clear HB
    have HO266 := n0_
    have HO269 := n1_
    have HO272 := n2_
    have HO276 := n3_
    have HO279 := n4_
    have HO282 := n5_
    have BK262 := n6_
    have BK283 := n7_
    have HB := n8_
    clear n0_ n1_ n2_ n3_ n4_ n5_ n6_ n7_ n8_
    refine start_ (n := 5) (S := fun w' => w'.cell? ⟨gb283, 0, none⟩ = some (.slice Ao69 t274.length co69) ∧ w'.cell? ⟨gb283, 1, none⟩ = some (.slice Ao72 t277.length co72) ∧ w'.cell? ⟨gb283, 2, none⟩ = some (.slice Ao73 t280.length co73) ∧ w'.cell? ⟨gb262, 0, none⟩ = some (.slice A0_0 l0_0.length c0_0) ∧ w'.cell? ⟨gb262, 1, none⟩ = some (.slice A0_1 l0_1.length c0_1) ∧ w'.cell? ⟨gb262, 2, none⟩ = some (.slice A0_2 l0_2.length c0_2)) (ds := []) #[F,F,F,F,F] (by kernel_rfl) rfl rfl ⟨(blk_cell BK283.out 0).trans rfl, (blk_cell BK283.out 1).trans rfl, (blk_cell BK283.out 2).trans rfl, (blk_cell BK262.out 0).trans rfl, (blk_cell BK262.out 1).trans rfl, (blk_cell BK262.out 2).trans rfl⟩ (fun hHeld => ?_)
    generalize w74.drew = w75 at HO266 HO269 HO272 HO276 HO279 HO282 BK262 BK283 HB hHeld ⊢
    refine take_ (i := 0) (N := some 22) (v := ?_) (a' := ?_) #[T,F,F,F,F] rfl rfl (by kernel_rfl) ZF (Or.inl ⟨by rfl, ?_⟩) hHeld ?_ ?_
    rotate_left
    ·exact Z34
    rotate_left
    ·exact Z0
    refine take_ (i := 1) (N := some 23) (v := ?_) (a' := ?_) #[T,T,F,F,F] rfl rfl (by kernel_rfl) ZF (Or.inl ⟨by rfl, ?_⟩) hHeld ?_ ?_
    rotate_left
    ·exact Z34
    rotate_left
    ·exact Z0
    refine one_ (i := 2) (N := some 24) #[T,T,T,F,F] rfl rfl (by kernel_rfl) (by decide) (fun K hK => ?_)
    refine goes_ Try.func10 (by kernel_rfl) rfl #[.agg #[.slice A0_0 l0_0.length c0_0, .slice A0_1 l0_1.length c0_1, .slice A0_2 l0_2.length c0_2]] (by rfl) rfl rfl Z5 ?_
    with_reducible refine (laws_toHist.calls k _ _ l0_0 _ _ l0_1 _ _ l0_2 t285 t288 t291 _ ?side1 ?side2 ?side3 ?side4 ?side5 ?side6 A30.out).mono ?_
    (case side1 => exact Z3 HR0_0.out)
    (case side2 => exact HC0_0.out)
    (case side3 => exact Z3 HR0_1.out)
    (case side4 => exact HC0_1.out)
    (case side5 => exact Z3 HR0_2.out)
    (case side6 => exact HC0_2.out)
    rintro e w76 ⟨v286, v289, v292, rfl, ho0, ho1, ho2, hb⟩
    refine ⟨_, rfl, ?_⟩
    have n0_ := A_ (Kd.S_elder' (Z15 HO266.out) (Kd.S_base ho0) hb)
    have n1_ := A_ (Kd.R_mono (Kd.R_told (Kd.R_told (Kd.R_told (Kd.R_old (Z14 HO269.out) hb) (Kd.S_base ho0)) (Kd.R_base ho1)) (Kd.R_base ho2)) (fun _ h_ => h_.1))
    have n2_ := A_ (Kd.R_mono (Kd.R_told (Kd.R_told (Kd.R_told (Kd.R_old (Z14 HO272.out) hb) (Kd.S_base ho0)) (Kd.R_base ho1)) (Kd.R_base ho2)) (fun _ h_ => h_.1))
    have n3_ := A_ (Kd.S_elder' (Z15 HO276.out) (Kd.S_base ho0) hb)
    have n4_ := A_ (Kd.R_mono (Kd.R_told (Kd.R_told (Kd.R_told (Kd.R_old (Z14 HO279.out) hb) (Kd.S_base ho0)) (Kd.R_base ho1)) (Kd.R_base ho2)) (fun _ h_ => h_.1))
    have n5_ := A_ (Kd.R_mono (Kd.R_told (Kd.R_told (Kd.R_told (Kd.R_old (Z14 HO282.out) hb) (Kd.S_base ho0)) (Kd.R_base ho1)) (Kd.R_base ho2)) (fun _ h_ => h_.1))
    have n6_ := A_ (Kd.S_lower (Kd.S_new' (Kd.S_new' ho0 (Kd.S_lt (Z15 HO266.out))) (Kd.S_lt (Z15 HO276.out))) (below_size (Z10 GE262.out GE283.out)))
    have n7_ := A_ (Kd.R_lower (Kd.R_new' (Kd.R_new' (Kd.R_new' (Kd.R_new' (Kd.R_new' (Kd.R_new' ho1 (Kd.S_lt (Z15 HO266.out))) (Kd.R_lt (Z14 HO269.out))) (Kd.R_lt (Z14 HO272.out))) (Kd.S_lt (Z15 HO276.out))) (Kd.R_lt (Z14 HO279.out))) (Kd.R_lt (Z14 HO282.out))) (below_size (Z10 GE262.out GE283.out)))
    have n8_ := A_ (Kd.R_lower (Kd.R_new' (Kd.R_new' (Kd.R_new' (Kd.R_new' (Kd.R_new' (Kd.R_new' ho2 (Kd.S_lt (Z15 HO266.out))) (Kd.R_lt (Z14 HO269.out))) (Kd.R_lt (Z14 HO272.out))) (Kd.S_lt (Z15 HO276.out))) (Kd.R_lt (Z14 HO279.out))) (Kd.R_lt (Z14 HO282.out))) (below_size (Z10 GE262.out GE283.out)))
    have n9_ := A_ (blk_below (g := gb262) (o := .cells #[.slice A0_0 l0_0.length c0_0, .slice A0_1 l0_1.length c0_1, .slice A0_2 l0_2.length c0_2] 25 (0, 0)) (Z4 BK262.out) hb)
    have n10_ := A_ (blk_below (g := gb283) (o := .cells #[.slice Ao69 t274.length co69, .slice Ao72 t277.length co72, .slice Ao73 t280.length co73] 31 (0, 0)) (Z4 BK283.out) hb)
    have n11_ := A_ (below_step (Z10 GE262.out GE283.out) hb)
    clear HO266
    clear HO269
    clear HO272
    clear HO276
    clear HO279
    clear HO282
    clear BK262
    clear BK283
    clear HB
    have HO266 := n0_
    have HO269 := n1_
    have HO272 := n2_
    have HO276 := n3_
    have HO279 := n4_
    have HO282 := n5_
    have HO287 := n6_
    have HO290 := n7_
    have HO293 := n8_
    have BK262 := n9_
    have BK283 := n10_
    have HB := n11_
    clear n0_ n1_ n2_ n3_ n4_ n5_ n6_ n7_ n8_ n9_ n10_ n11_
    (try clear hb)
    (try clear hb2)
    (try clear hk)
    (try clear hi)
    (try clear ho0)
    (try clear ho1)
    (try clear ho2)
    obtain ⟨Ao77, co77, eo77⟩ := Kd.S_slice HO287.out
    (first | subst eo77 | (injection eo77 with f1_ f2_ f3_; have f4_ := f1_.symm; have f5_ := f3_.symm; clear f1_ f2_ f3_; subst f4_; subst f5_))
    obtain ⟨Ao78, co78, eo78⟩ := Kd.R_slice HO290.out
    (first | subst eo78 | (injection eo78 with f1_ f2_ f3_; have f4_ := f1_.symm; have f5_ := f3_.symm; clear f1_ f2_ f3_; subst f4_; subst f5_))
    obtain ⟨Ao79, co79, eo79⟩ := Kd.R_slice HO293.out
    (first | subst eo79 | (injection eo79 with f1_ f2_ f3_; have f4_ := f1_.symm; have f5_ := f3_.symm; clear f1_ f2_ f3_; subst f4_; subst f5_))
    refine hK.out _ _ ⟨(blk_cell BK283.out 0).trans rfl, (blk_cell BK283.out 1).trans rfl, (blk_cell BK283.out 2).trans rfl, (blk_cell BK262.out 0).trans rfl, (blk_cell BK262.out 1).trans rfl, (blk_cell BK262.out 2).trans rfl⟩ (fun hHeld => ?_)
    clear hK K
    refine norm_ (a' := ?_) ?_ ?_
    rotate_left
    ·show Act.put _ (some 24) _ = _
     simp only [Act.put, List.setIfInBounds_toArray, List.set_cons_zero, List.set_cons_succ, i64_w, i32_w]
     rfl
    refine one_ (i := 3) (N := some 25) #[T,T,T,T,F] rfl rfl (by kernel_rfl) (by decide) (fun K hK => ?_)
    refine goes_ Try.func12 (by kernel_rfl) rfl #[.agg #[.slice Ao69 t274.length co69, .slice Ao72 t277.length co72, .slice Ao73 t280.length co73], .agg #[.slice Ao77 t285.length co77, .slice Ao78 t288.length co78, .slice Ao79 t291.length co79]] (by rfl) rfl rfl Z5 ?_
    with_reducible refine (laws_eqHist.calls k _ _ t274 _ _ t277 _ _ t280 _ _ t285 _ _ t288 _ _ t291 false _ ?side1 ?side2 ?side3 ?side4 ?side5 ?side6 ?side7 ?side8 ?side9 ?side10 ?side11 ?side12 A31.out).mono ?_
    (case side1 => exact Z32 HO276.out)
    (case side2 => exact (Kd.S_reads' HO276.out).2.1)
    (case side3 => exact Z19 HO279.out)
    (case side4 => exact (Kd.R_reads' HO279.out).2.1)
    (case side5 => exact Z19 HO282.out)
    (case side6 => exact (Kd.R_reads' HO282.out).2.1)
    (case side7 => exact Z32 HO287.out)
    (case side8 => exact (Kd.S_reads' HO287.out).2.1)
    (case side9 => exact Z19 HO290.out)
    (case side10 => exact (Kd.R_reads' HO290.out).2.1)
    (case side11 => exact Z19 HO293.out)
    (case side12 => exact (Kd.R_reads' HO293.out).2.1)
    rintro e w80 ⟨rfl, hb⟩
    refine ⟨_, rfl, ?_⟩
    have n0_ := A_ (Kd.S_below (Z15 HO266.out) hb)
    have n1_ := A_ (Kd.R_below (Z14 HO269.out) hb)
    have n2_ := A_ (Kd.R_below (Z14 HO272.out) hb)
    have n3_ := A_ (Kd.S_below (Z15 HO276.out) hb)
    have n4_ := A_ (Kd.R_below (Z14 HO279.out) hb)
    have n5_ := A_ (Kd.R_below (Z14 HO282.out) hb)
    have n6_ := A_ (Kd.S_below (Z15 HO287.out) hb)
    have n7_ := A_ (Kd.R_below (Z14 HO290.out) hb)
    have n8_ := A_ (Kd.R_below (Z14 HO293.out) hb)
    have n9_ := A_ (blk_below (g := gb262) (o := .cells #[.slice A0_0 l0_0.length c0_0, .slice A0_1 l0_1.length c0_1, .slice A0_2 l0_2.length c0_2] 25 (0, 0)) (Z4 BK262.out) hb)
    have n10_ := A_ (blk_below (g := gb283) (o := .cells #[.slice Ao69 t274.length co69, .slice Ao72 t277.length co72, .slice Ao73 t280.length co73] 31 (0, 0)) (Z4 BK283.out) hb)
    have n11_ := A_ (below_step (Z10 GE262.out GE283.out) hb)
    clear HO266
    clear HO269
    clear HO272
    clear HO276
    clear HO279
    clear HO282
    clear HO287
    clear HO290
    clear HO293
    clear BK262
    clear BK283
    clear HB
    have HO266 := n0_
    have HO269 := n1_
    have HO272 := n2_
    have HO276 := n3_
    have HO279 := n4_
    have HO282 := n5_
    have HO287 := n6_
    have HO290 := n7_
    have HO293 := n8_
    have BK262 := n9_
    have BK283 := n10_
    have HB := n11_
    clear n0_ n1_ n2_ n3_ n4_ n5_ n6_ n7_ n8_ n9_ n10_ n11_
    (try clear hb)
    (try clear hb2)
    (try clear hk)
    (try clear hi)
    refine hK.out _ _ ⟨(blk_cell BK283.out 0).trans rfl, (blk_cell BK283.out 1).trans rfl, (blk_cell BK283.out 2).trans rfl, (blk_cell BK262.out 0).trans rfl, (blk_cell BK262.out 1).trans rfl, (blk_cell BK262.out 2).trans rfl⟩ (fun hHeld => ?_)
    clear hK K
    refine norm_ (a' := ?_) ?_ ?_
    rotate_left
    ·exact Z25
    refine pure_ (i := 4) (N := some 26) (v := ?_) (a' := ?_) #[T,T,T,T,T] rfl rfl (by kernel_rfl) ZF (Or.inl ⟨by rfl, ?_⟩) ?_ ?_
    rotate_left
    ·exact Z13
    rotate_left
    ·exact Z0
    refine done_ (by kernel_rfl) ?_
    try go_wp2
    go_ret
    exact ⟨Z11, Z10 GE262.out GE283.out⟩
end Go.Proofs.Ytmphggpibaolcaa.PFnExactHistOk
