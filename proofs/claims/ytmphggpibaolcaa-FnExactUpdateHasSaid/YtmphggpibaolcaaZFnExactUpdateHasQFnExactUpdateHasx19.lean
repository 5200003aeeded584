/- Walks of the functions that the law 'FnExactUpdateHas' reaches, part 19: for each a Lean function and the proof that Go's comes to just its answer (lines of the print, under own names; no condition). -/
import Derived.Test.YtmphggpibaolcaaZFnExactUpdateHasQFnExactUpdateHasx0
import Derived.Test.YtmphggpibaolcaaZFnExactUpdateHasQFnExactUpdateHasx3
import Derived.Test.YtmphggpibaolcaaZFnExactUpdateHasQFnExactUpdateHasx8
import Derived.Test.YtmphggpibaolcaaZFnExactUpdateHasQFnExactUpdateHasx9
import Derived.Test.YtmphggpibaolcaaZFnExactUpdateHasQFnExactUpdateHasx16
import Derived.Test.YtmphggpibaolcaaZFnExactUpdateHasQFnExactUpdateHasx17
import Derived.Test.YtmphggpibaolcaaZFnExactUpdateHasQFnExactUpdateHasx18
namespace Go.Proofs.Ytmphggpibaolcaa.PFnExactUpdateHas
open Go.RowKit Go.Proofs.YtmphggpibaolcaaW.PrintWords Go.Proofs.YtmphggpibaolcaaW.PrintLast Go.Proofs.YtmphggpibaolcaaW.PrintMore
attribute [local go_sem] max2_int min2_int max_two min_two max_three min_three max_four min_four
set_option linter.unusedVariables false
set_option linter.unusedSimpArgs false
def laws_FnExactUpdateHas.f (k : Nat) (l0 : List (S86)) (l1_0 : List (S123)) (a1_1 : Int) (l1_2 : List (S117)) (a1_3 : Int) : Option (Bool) := (laws_szCellS.f k l0 1048576).bind fun t318 => (if t318 < 0 then (some true) else ((laws_szUpdate.f k l1_0 a1_1 l1_2 a1_3 t318).bind fun t319 => (if t319 < 0 then (some true) else ((laws_toCellS.f k l0).bind fun t320 => ((laws_toUpdate.f k l1_0 a1_1 l1_2 a1_3).bind fun bt323 => ((spec_UpdateHas.f k t320 bt323.1 bt323.2.1 bt323.2.2.1 bt323.2.2.2).bind fun t331 => ((laws_toCellS.f k l0).bind fun t332 => ((laws_toUpdate.f k l1_0 a1_1 l1_2 a1_3).bind fun bt335 => ((impl_UpdateHas.f k t332 bt335.1 bt335.2.1 bt335.2.2.1 bt335.2.2.2).bind fun t344 => (if (t344 != t331) = true then (some false) else ((laws_toCellS.f k l0).bind fun t345 => ((laws_eqCellS.f k t332 t345).bind fun t348 => (if t348 = true then ((laws_toUpdate.f k l1_0 a1_1 l1_2 a1_3).bind fun bt349 => ((laws_eqUpdate.f k bt335.1 bt335.2.1 bt335.2.2.1 bt335.2.2.2 bt349.1 bt349.2.1 bt349.2.2.1 bt349.2.2.2).bind fun t357 => (if t357 = true then (some true) else (some false)))) else (some false))))))))))))))
theorem laws_FnExactUpdateHas.mono : ∀ a0 a1 a2 a3 a4 k, LeO (laws_FnExactUpdateHas.f k a0 a1 a2 a3 a4) (laws_FnExactUpdateHas.f (k + 1) a0 a1 a2 a3 a4) := by
 intro a0 a1 a2 a3 a4 k
 unfold laws_FnExactUpdateHas.f
 repeat' first
   | (with_reducible exact impl_UpdateHas.mono _ _ _ _ _ _)
   | (with_reducible exact laws_eqCellS.mono _ _ _)
   | (with_reducible exact laws_eqUpdate.mono _ _ _ _ _ _ _ _ _)
   | (with_reducible exact laws_szCellS.mono _ _ _)
   | (with_reducible exact laws_szUpdate.mono _ _ _ _ _ _)
   | (with_reducible exact laws_toCellS.mono _ _)
   | (with_reducible exact laws_toUpdate.mono _ _ _ _ _)
   | (with_reducible exact spec_UpdateHas.mono _ _ _ _ _ _)
   | (with_reducible exact LeO.refl _)
   | (with_reducible exact LeO.none _)
   | (with_reducible refine LeO.ite ?_ ?_)
   | (with_reducible refine LeO.bind ?_ (fun _ => ?_))
   | exact impl_UpdateHas.mono _ _ _ _ _ _
   | exact laws_eqCellS.mono _ _ _
   | exact laws_eqUpdate.mono _ _ _ _ _ _ _ _ _
   | exact laws_szCellS.mono _ _ _
   | exact laws_szUpdate.mono _ _ _ _ _ _
   | exact laws_toCellS.mono _ _
   | exact laws_toUpdate.mono _ _ _ _ _
   | exact spec_UpdateHas.mono _ _ _ _ _ _
   | exact LeO.none _
   | refine LeO.ite ?_ ?_
   | refine LeO.bind ?_ (fun _ => ?_)
set_option maxHeartbeats 8000000 in
set_option maxRecDepth 100000 in
theorem laws_FnExactUpdateHas.calls (k : Nat) (A0 : Option Addr) (c0 : Nat) (l0 : List (S86)) (A1_0 : Option Addr) (c1_0 : Nat) (l1_0 : List (S123)) (a1_1 : Int) (A1_2 : Option Addr) (c1_2 : Nat) (l1_2 : List (S117)) (a1_3 : Int) (r : Bool) (w : World) (hr0 : Kd.C k86 w A0 l0.length l0) (hc0 : l0.length ≤ c0) (hr1_0 : Kd.C k123 w A1_0 l1_0.length l1_0) (hc1_0 : l1_0.length ≤ c1_0) (hr1_2 : Kd.C k117 w A1_2 l1_2.length l1_2) (hc1_2 : l1_2.length ≤ c1_2) (h : laws_FnExactUpdateHas.f k l0 l1_0 a1_1 l1_2 a1_3 = some r) :
  Calls Try.prog 5 #[.slice A0 l0.length c0, .agg #[.slice A1_0 l1_0.length c1_0, .int .i64 a1_1, .slice A1_2 l1_2.length c1_2, .int .i64 a1_3]] w fun e w' => e = .returned (.bool r) ∧ Below w.heap.size w w' := by
 have hu45 := Try.underlying45
 have hu53 := Try.underlying53
 have HR0 := A_ hr0
 have HC0 := A_ hc0
 clear hr0 hc0
 have HR1_0 := A_ hr1_0
 have HC1_0 := A_ hc1_0
 clear hr1_0 hc1_0
 have HR1_2 := A_ hr1_2
 have HC1_2 := A_ hc1_2
 clear hr1_2 hc1_2
 have HB := A_ (Below.refl w.heap.size w)
 have H : ((laws_szCellS.f k l0 1048576).bind fun t318 => (if t318 < 0 then (some true) else ((laws_szUpdate.f k l1_0 a1_1 l1_2 a1_3 t318).bind fun t319 => (if t319 < 0 then (some true) else ((laws_toCellS.f k l0).bind fun t320 => ((laws_toUpdate.f k l1_0 a1_1 l1_2 a1_3).bind fun bt323 => ((spec_UpdateHas.f k t320 bt323.1 bt323.2.1 bt323.2.2.1 bt323.2.2.2).bind fun t331 => ((laws_toCellS.f k l0).bind fun t332 => ((laws_toUpdate.f k l1_0 a1_1 l1_2 a1_3).bind fun bt335 => ((impl_UpdateHas.f k t332 bt335.1 bt335.2.1 bt335.2.2.1 bt335.2.2.2).bind fun t344 => (if (t344 != t331) = true then (some false) else ((laws_toCellS.f k l0).bind fun t345 => ((laws_eqCellS.f k t332 t345).bind fun t348 => (if t348 = true then ((laws_toUpdate.f k l1_0 a1_1 l1_2 a1_3).bind fun bt349 => ((laws_eqUpdate.f k bt335.1 bt335.2.1 bt335.2.2.1 bt335.2.2.2 bt349.1 bt349.2.1 bt349.2.2.1 bt349.2.2.2).bind fun t357 => (if t357 = true then (some true) else (some false)))) else (some false))))))))))))))) = some r := h
 clear h
 replace H := Option.bind_eq_some_iff.mp H
 obtain ⟨t318, A30, H⟩ := H
 replace H : (if t318 < 0 then (some true) else ((laws_szUpdate.f k l1_0 a1_1 l1_2 a1_3 t318).bind fun t319 => (if t319 < 0 then (some true) else ((laws_toCellS.f k l0).bind fun t320 => ((laws_toUpdate.f k l1_0 a1_1 l1_2 a1_3).bind fun bt323 => ((spec_UpdateHas.f k t320 bt323.1 bt323.2.1 bt323.2.2.1 bt323.2.2.2).bind fun t331 => ((laws_toCellS.f k l0).bind fun t332 => ((laws_toUpdate.f k l1_0 a1_1 l1_2 a1_3).bind fun bt335 => ((impl_UpdateHas.f k t332 bt335.1 bt335.2.1 bt335.2.2.1 bt335.2.2.2).bind fun t344 => (if (t344 != t331) = true then (some false) else ((laws_toCellS.f k l0).bind fun t345 => ((laws_eqCellS.f k t332 t345).bind fun t348 => (if t348 = true then ((laws_toUpdate.f k l1_0 a1_1 l1_2 a1_3).bind fun bt349 => ((laws_eqUpdate.f k bt335.1 bt335.2.1 bt335.2.2.1 bt335.2.2.2 bt349.1 bt349.2.1 bt349.2.2.1 bt349.2.2.2).bind fun t357 => (if t357 = true then (some true) else (some false)))) else (some false)))))))))))))) = some r := H
 have A3 := A_ A30
 clear A30
 by_cases c4 : t318 < 0
 ·rw [if_pos c4] at H
  have c4b0 : decide (t318 < 0) = true := decide_eq_true c4
  clear c4
  obtain rfl := Option.some.inj H
  go_enter Try.func5, Try.ntmps5
  go_wp2_with (first | ((with_reducible refine gate_dst (N := 3) rfl ?_); refine box_event ?hg (N := 3) ?hd (cs := #[.slice A1_0 l1_0.length c1_0, .int .i64 a1_1, .slice A1_2 l1_2.length c1_2, .int .i64 a1_3]) (t := 45) ?hr ?_; (case hd => rfl); (case hg => rfl); (case hr => exact Z16); intro gb317 hg w5 hbox hb; have n0_ := A_ (below_step Z1 hb); have n1_ := A_ (hbox); have n2_ := A_ ((by rw [hg]; exact (below_size Z1) : w.heap.size ≤ gb317)); have n3_ := A_ ((by rw [hg]; exact (below_size Z1) : w.heap.size ≤ gb317)); clear HB; have HB := n0_; have BK317 := n1_; have GW317 := n2_; have GE317 := n3_; clear n0_ n1_ n2_ n3_; clear hb hbox hg) | ((with_reducible refine gate_callee (f := 18) rfl ?_); refine goesL_ (some 12) rfl rfl Try.func18 (by kernel_rfl) rfl #[.slice A0 l0.length c0, .int .i64 1048576] rfl Z5 ?_; (with_reducible refine (laws_szCellS.calls k _ _ l0 1048576 t318 _ ?side1 ?side2 A3.out).mono ?_); (case side1 => exact Z4 HR0.out); (case side2 => exact HC0.out); rintro e w6 ⟨rfl, hb⟩; refine ⟨_, rfl, ?_⟩; have n0_ := A_ (blk_below (g := gb317) (o := .cells #[.slice A1_0 l1_0.length c1_0, .int .i64 a1_1, .slice A1_2 l1_2.length c1_2, .int .i64 a1_3] 45 (0, 0)) (Z3 BK317.out) hb); have n1_ := A_ (below_step (Z2 GE317.out) hb); clear BK317; clear HB; have BK317 := n0_; have HB := n1_; clear n0_ n1_; (try clear hb); (try clear hb2); (try clear hk); (try clear hi)))
  go_ret
  exact ⟨Z7, Z2 GE317.out⟩
 ·rw [if_neg c4] at H
  have c4b0 : decide (t318 < 0) = false := decide_eq_false c4
  clear c4
  replace H := Option.bind_eq_some_iff.mp H
  obtain ⟨t319, A70, H⟩ := H
  replace H : (if t319 < 0 then (some true) else ((laws_toCellS.f k l0).bind fun t320 => ((laws_toUpdate.f k l1_0 a1_1 l1_2 a1_3).bind fun bt323 => ((spec_UpdateHas.f k t320 bt323.1 bt323.2.1 bt323.2.2.1 bt323.2.2.2).bind fun t331 => ((laws_toCellS.f k l0).bind fun t332 => ((laws_toUpdate.f k l1_0 a1_1 l1_2 a1_3).bind fun bt335 => ((impl_UpdateHas.f k t332 bt335.1 bt335.2.1 bt335.2.2.1 bt335.2.2.2).bind fun t344 => (if (t344 != t331) = true then (some false) else ((laws_toCellS.f k l0).bind fun t345 => ((laws_eqCellS.f k t332 t345).bind fun t348 => (if t348 = true then ((laws_toUpdate.f k l1_0 a1_1 l1_2 a1_3).bind fun bt349 => ((laws_eqUpdate.f k bt335.1 bt335.2.1 bt335.2.2.1 bt335.2.2.2 bt349.1 bt349.2.1 bt349.2.2.1 bt349.2.2.2).bind fun t357 => (if t357 = true then (some true) else (some false)))) else (some false)))))))))))) = some r := H
  have A7 := A_ A70
  clear A70
  by_cases c8 : t319 < 0
  ·rw [if_pos c8] at H
   have c8b0 : decide (t319 < 0) = true := decide_eq_true c8
   clear c8
   obtain rfl := Option.some.inj H
   go_enter Try.func5, Try.ntmps5
   go_wp2_with (first | ((with_reducible refine gate_dst (N := 3) rfl ?_); refine box_event ?hg (N := 3) ?hd (cs := #[.slice A1_0 l1_0.length c1_0, .int .i64 a1_1, .slice A1_2 l1_2.length c1_2, .int .i64 a1_3]) (t := 45) ?hr ?_; (case hd => rfl); (case hg => rfl); (case hr => exact Z16); intro gb317 hg w9 hbox hb; have n0_ := A_ (below_step Z1 hb); have n1_ := A_ (hbox); have n2_ := A_ ((by rw [hg]; exact (below_size Z1) : w.heap.size ≤ gb317)); have n3_ := A_ ((by rw [hg]; exact (below_size Z1) : w.heap.size ≤ gb317)); clear HB; have HB := n0_; have BK317 := n1_; have GW317 := n2_; have GE317 := n3_; clear n0_ n1_ n2_ n3_; clear hb hbox hg) | ((with_reducible refine gate_callee (f := 18) rfl ?_); refine goesL_ (some 12) rfl rfl Try.func18 (by kernel_rfl) rfl #[.slice A0 l0.length c0, .int .i64 1048576] rfl Z5 ?_; (with_reducible refine (laws_szCellS.calls k _ _ l0 1048576 t318 _ ?side1 ?side2 A3.out).mono ?_); (case side1 => exact Z4 HR0.out); (case side2 => exact HC0.out); rintro e w10 ⟨rfl, hb⟩; refine ⟨_, rfl, ?_⟩; have n0_ := A_ (blk_below (g := gb317) (o := .cells #[.slice A1_0 l1_0.length c1_0, .int .i64 a1_1, .slice A1_2 l1_2.length c1_2, .int .i64 a1_3] 45 (0, 0)) (Z3 BK317.out) hb); have n1_ := A_ (below_step (Z2 GE317.out) hb); clear BK317; clear HB; have BK317 := n0_; have HB := n1_; clear n0_ n1_; (try clear hb); (try clear hb2); (try clear hk); (try clear hi); have hcz11_0 : w10.cell? ⟨gb317, 0, none⟩ = some (.slice A1_0 l1_0.length c1_0) := (blk_cell BK317.out 0).trans rfl; have hcz11_1 : w10.cell? ⟨gb317, 1, none⟩ = some (.int .i64 a1_1) := (blk_cell BK317.out 1).trans rfl; have hcz11_2 : w10.cell? ⟨gb317, 2, none⟩ = some (.slice A1_2 l1_2.length c1_2) := (blk_cell BK317.out 2).trans rfl; have hcz11_3 : w10.cell? ⟨gb317, 3, none⟩ = some (.int .i64 a1_3) := (blk_cell BK317.out 3).trans rfl; have hfz11_0 := blk_frozen BK317.out 0; have hfz11_1 := blk_frozen BK317.out 1; have hfz11_2 := blk_frozen BK317.out 2; have hfz11_3 := blk_frozen BK317.out 3) | ((with_reducible refine gate_callee (f := 19) rfl ?_); refine goesL_ (some 17) rfl rfl Try.func19 (by kernel_rfl) rfl #[.agg #[.slice A1_0 l1_0.length c1_0, .int .i64 a1_1, .slice A1_2 l1_2.length c1_2, .int .i64 a1_3], .int .i64 t318] rfl Z5 ?_; (with_reducible refine (laws_szUpdate.calls k _ _ l1_0 a1_1 _ _ l1_2 a1_3 t318 t319 _ ?side1 ?side2 ?side3 ?side4 A7.out).mono ?_); (case side1 => exact Z4 HR1_0.out); (case side2 => exact HC1_0.out); (case side3 => exact Z4 HR1_2.out); (case side4 => exact HC1_2.out); rintro e w12 ⟨rfl, hb⟩; refine ⟨_, rfl, ?_⟩; have n0_ := A_ (blk_below (g := gb317) (o := .cells #[.slice A1_0 l1_0.length c1_0, .int .i64 a1_1, .slice A1_2 l1_2.length c1_2, .int .i64 a1_3] 45 (0, 0)) (Z3 BK317.out) hb); have n1_ := A_ (below_step (Z2 GE317.out) hb); clear BK317; clear HB; have BK317 := n0_; have HB := n1_; clear n0_ n1_; (try clear hb); (try clear hb2); (try clear hk); (try clear hi)))
   go_ret
   exact ⟨Z7, Z2 GE317.out⟩
  ·rw [if_neg c8] at H
   have c8b0 : decide (t319 < 0) = false := decide_eq_false c8
   clear c8
   replace H := Option.bind_eq_some_iff.mp H
   obtain ⟨t320, A130, H⟩ := H
   replace H : ((laws_toUpdate.f k l1_0 a1_1 l1_2 a1_3).bind fun bt323 => ((spec_UpdateHas.f k t320 bt323.1 bt323.2.1 bt323.2.2.1 bt323.2.2.2).bind fun t331 => ((laws_toCellS.f k l0).bind fun t332 => ((laws_toUpdate.f k l1_0 a1_1 l1_2 a1_3).bind fun bt335 => ((impl_UpdateHas.f k t332 bt335.1 bt335.2.1 bt335.2.2.1 bt335.2.2.2).bind fun t344 => (if (t344 != t331) = true then (some false) else ((laws_toCellS.f k l0).bind fun t345 => ((laws_eqCellS.f k t332 t345).bind fun t348 => (if t348 = true then ((laws_toUpdate.f k l1_0 a1_1 l1_2 a1_3).bind fun bt349 => ((laws_eqUpdate.f k bt335.1 bt335.2.1 bt335.2.2.1 bt335.2.2.2 bt349.1 bt349.2.1 bt349.2.2.1 bt349.2.2.2).bind fun t357 => (if t357 = true then (some true) else (some false)))) else (some false)))))))))) = some r := H
   have A13 := A_ A130
   clear A130
   replace H := Option.bind_eq_some_iff.mp H
   obtain ⟨⟨t323, t326, t327, t330⟩, A140, H⟩ := H
   replace H : ((spec_UpdateHas.f k t320 t323 t326 t327 t330).bind fun t331 => ((laws_toCellS.f k l0).bind fun t332 => ((laws_toUpdate.f k l1_0 a1_1 l1_2 a1_3).bind fun bt335 => ((impl_UpdateHas.f k t332 bt335.1 bt335.2.1 bt335.2.2.1 bt335.2.2.2).bind fun t344 => (if (t344 != t331) = true then (some false) else ((laws_toCellS.f k l0).bind fun t345 => ((laws_eqCellS.f k t332 t345).bind fun t348 => (if t348 = true then ((laws_toUpdate.f k l1_0 a1_1 l1_2 a1_3).bind fun bt349 => ((laws_eqUpdate.f k bt335.1 bt335.2.1 bt335.2.2.1 bt335.2.2.2 bt349.1 bt349.2.1 bt349.2.2.1 bt349.2.2.2).bind fun t357 => (if t357 = true then (some true) else (some false)))) else (some false))))))))) = some r := H
   have A14 := A_ A140
   clear A140
   replace H := Option.bind_eq_some_iff.mp H
   obtain ⟨t331, A150, H⟩ := H
   replace H : ((laws_toCellS.f k l0).bind fun t332 => ((laws_toUpdate.f k l1_0 a1_1 l1_2 a1_3).bind fun bt335 => ((impl_UpdateHas.f k t332 bt335.1 bt335.2.1 bt335.2.2.1 bt335.2.2.2).bind fun t344 => (if (t344 != t331) = true then (some false) else ((laws_toCellS.f k l0).bind fun t345 => ((laws_eqCellS.f k t332 t345).bind fun t348 => (if t348 = true then ((laws_toUpdate.f k l1_0 a1_1 l1_2 a1_3).bind fun bt349 => ((laws_eqUpdate.f k bt335.1 bt335.2.1 bt335.2.2.1 bt335.2.2.2 bt349.1 bt349.2.1 bt349.2.2.1 bt349.2.2.2).bind fun t357 => (if t357 = true then (some true) else (some false)))) else (some false)))))))) = some r := H
   have A15 := A_ A150
   clear A150
   replace H := Option.bind_eq_some_iff.mp H
   obtain ⟨t332, A160, H⟩ := H
   replace H : ((laws_toUpdate.f k l1_0 a1_1 l1_2 a1_3).bind fun bt335 => ((impl_UpdateHas.f k t332 bt335.1 bt335.2.1 bt335.2.2.1 bt335.2.2.2).bind fun t344 => (if (t344 != t331) = true then (some false) else ((laws_toCellS.f k l0).bind fun t345 => ((laws_eqCellS.f k t332 t345).bind fun t348 => (if t348 = true then ((laws_toUpdate.f k l1_0 a1_1 l1_2 a1_3).bind fun bt349 => ((laws_eqUpdate.f k bt335.1 bt335.2.1 bt335.2.2.1 bt335.2.2.2 bt349.1 bt349.2.1 bt349.2.2.1 bt349.2.2.2).bind fun t357 => (if t357 = true then (some true) else (some false)))) else (some false))))))) = some r := H
   have A16 := A_ A160
   clear A160
   replace H := Option.bind_eq_some_iff.mp H
   obtain ⟨⟨t335, t338, t339, t342⟩, A170, H⟩ := H
   replace H : ((impl_UpdateHas.f k t332 t335 t338 t339 t342).bind fun t344 => (if (t344 != t331) = true then (some false) else ((laws_toCellS.f k l0).bind fun t345 => ((laws_eqCellS.f k t332 t345).bind fun t348 => (if t348 = true then ((laws_toUpdate.f k l1_0 a1_1 l1_2 a1_3).bind fun bt349 => ((laws_eqUpdate.f k t335 t338 t339 t342 bt349.1 bt349.2.1 bt349.2.2.1 bt349.2.2.2).bind fun t357 => (if t357 = true then (some true) else (some false)))) else (some false)))))) = some r := H
   have A17 := A_ A170
   clear A170
   replace H := Option.bind_eq_some_iff.mp H
   obtain ⟨t344, A180, H⟩ := H
   replace H : (if (t344 != t331) = true then (some false) else ((laws_toCellS.f k l0).bind fun t345 => ((laws_eqCellS.f k t332 t345).bind fun t348 => (if t348 = true then ((laws_toUpdate.f k l1_0 a1_1 l1_2 a1_3).bind fun bt349 => ((laws_eqUpdate.f k t335 t338 t339 t342 bt349.1 bt349.2.1 bt349.2.2.1 bt349.2.2.2).bind fun t357 => (if t357 = true then (some true) else (some false)))) else (some false))))) = some r := H
   have A18 := A_ A180
   clear A180
   by_cases c19 : (t344 != t331) = true
   ·rw [if_pos c19] at H
    have c19b0 : (t344 != t331) = true := c19
    (try (have c19b1 : decide (t344 = t331) = false := by simpa using c19))
    (try (have c19b2 : (t344 == t331) = false := by simpa using c19))
    (try (have c19b3 : ¬ (t344 = t331) := by simpa using c19))
    clear c19
    obtain rfl := Option.some.inj H
    go_enter Try.func5, Try.ntmps5
    try go_wp2_with (first | ((with_reducible refine gate_dst (N := 3) rfl ?_); refine box_event ?hg (N := 3) ?hd (cs := #[.slice A1_0 l1_0.length c1_0, .int .i64 a1_1, .slice A1_2 l1_2.length c1_2, .int .i64 a1_3]) (t := 45) ?hr ?_; (case hd => rfl); (case hg => rfl); (case hr => exact Z16); intro gb317 hg w20 hbox hb; have n0_ := A_ (below_step Z1 hb); have n1_ := A_ (hbox); have n2_ := A_ ((by rw [hg]; exact (below_size Z1) : w.heap.size ≤ gb317)); have n3_ := A_ ((by rw [hg]; exact (below_size Z1) : w.heap.size ≤ gb317)); clear HB; have HB := n0_; have BK317 := n1_; have GW317 := n2_; have GE317 := n3_; clear n0_ n1_ n2_ n3_; clear hb hbox hg) | ((with_reducible refine gate_callee (f := 18) rfl ?_); refine goesL_ (some 12) rfl rfl Try.func18 (by kernel_rfl) rfl #[.slice A0 l0.length c0, .int .i64 1048576] rfl Z5 ?_; (with_reducible refine (laws_szCellS.calls k _ _ l0 1048576 t318 _ ?side1 ?side2 A3.out).mono ?_); (case side1 => exact Z4 HR0.out); (case side2 => exact HC0.out); rintro e w21 ⟨rfl, hb⟩; refine ⟨_, rfl, ?_⟩; have n0_ := A_ (blk_below (g := gb317) (o := .cells #[.slice A1_0 l1_0.length c1_0, .int .i64 a1_1, .slice A1_2 l1_2.length c1_2, .int .i64 a1_3] 45 (0, 0)) (Z3 BK317.out) hb); have n1_ := A_ (below_step (Z2 GE317.out) hb); clear BK317; clear HB; have BK317 := n0_; have HB := n1_; clear n0_ n1_; (try clear hb); (try clear hb2); (try clear hk); (try clear hi); have hcz22_0 : w21.cell? ⟨gb317, 0, none⟩ = some (.slice A1_0 l1_0.length c1_0) := (blk_cell BK317.out 0).trans rfl; have hcz22_1 : w21.cell? ⟨gb317, 1, none⟩ = some (.int .i64 a1_1) := (blk_cell BK317.out 1).trans rfl; have hcz22_2 : w21.cell? ⟨gb317, 2, none⟩ = some (.slice A1_2 l1_2.length c1_2) := (blk_cell BK317.out 2).trans rfl; have hcz22_3 : w21.cell? ⟨gb317, 3, none⟩ = some (.int .i64 a1_3) := (blk_cell BK317.out 3).trans rfl; have hfz22_0 := blk_frozen BK317.out 0; have hfz22_1 := blk_frozen BK317.out 1; have hfz22_2 := blk_frozen BK317.out 2; have hfz22_3 := blk_frozen BK317.out 3) | ((with_reducible refine gate_callee (f := 19) rfl ?_); refine goesL_ (some 17) rfl rfl Try.func19 (by kernel_rfl) rfl #[.agg #[.slice A1_0 l1_0.length c1_0, .int .i64 a1_1, .slice A1_2 l1_2.length c1_2, .int .i64 a1_3], .int .i64 t318] rfl Z5 ?_; (with_reducible refine (laws_szUpdate.calls k _ _ l1_0 a1_1 _ _ l1_2 a1_3 t318 t319 _ ?side1 ?side2 ?side3 ?side4 A7.out).mono ?_); (case side1 => exact Z4 HR1_0.out); (case side2 => exact HC1_0.out); (case side3 => exact Z4 HR1_2.out); (case side4 => exact HC1_2.out); rintro e w23 ⟨rfl, hb⟩; refine ⟨_, rfl, ?_⟩; have n0_ := A_ (blk_below (g := gb317) (o := .cells #[.slice A1_0 l1_0.length c1_0, .int .i64 a1_1, .slice A1_2 l1_2.length c1_2, .int .i64 a1_3] 45 (0, 0)) (Z3 BK317.out) hb); have n1_ := A_ (below_step (Z2 GE317.out) hb); clear BK317; clear HB; have BK317 := n0_; have HB := n1_; clear n0_ n1_; (try clear hb); (try clear hb2); (try clear hk); (try clear hi)))
    have n0_ := A_ (blk_drew BK317.out)
    have n1_ := A_ (below_drew1 HB.out)
    clear BK317
    clear HB
    have BK317 := n0_
    have HB := n1_
    clear n0_ n1_
    refine start_ (n := 6) (S := fun w' => w'.cell? ⟨gb317, 0, none⟩ = some (.slice A1_0 l1_0.length c1_0) ∧ w'.cell? ⟨gb317, 1, none⟩ = some (.int .i64 a1_1) ∧ w'.cell? ⟨gb317, 2, none⟩ = some (.slice A1_2 l1_2.length c1_2) ∧ w'.cell? ⟨gb317, 3, none⟩ = some (.int .i64 a1_3)) (ds := []) #[F,F,F,F,F,F] (by kernel_rfl) rfl rfl ⟨(blk_cell BK317.out 0).trans rfl, (blk_cell BK317.out 1).trans rfl, (blk_cell BK317.out 2).trans rfl, (blk_cell BK317.out 3).trans rfl⟩ (fun hHeld => ?_)
    generalize w23.drew = w24 at BK317 HB hHeld ⊢
    refine pure_ (i := 0) (N := some 20) (v := ?_) (a' := ?_) #[T,F,F,F,F,F] rfl rfl (by kernel_rfl) ZF (Or.inl ⟨by rfl, ?_⟩) ?_ ?_
    rotate_left
    ·exact Z13
    rotate_left
    ·exact Z0
    refine take_ (i := 2) (N := some 22) (v := ?_) (a' := ?_) #[T,F,T,F,F,F] rfl rfl (by kernel_rfl) ZF (Or.inl ⟨by rfl, ?_⟩) hHeld ?_ ?_
    rotate_left
    ·exact Z28
    rotate_left
    ·exact Z0
    refine one_ (i := 1) (N := some 21) #[T,T,T,F,F,F] rfl rfl (by kernel_rfl) (by decide) (fun K hK => ?_)
    refine goes_ Try.func21 (by kernel_rfl) rfl #[.slice A0 l0.length c0] (by rfl) rfl rfl Z5 ?_
    with_reducible refine (laws_toCellS.calls k _ _ l0 t320 _ ?side1 ?side2 A13.out).mono ?_
    (case side1 => exact Z4 HR0.out)
    (case side2 => exact HC0.out)
    rintro e w25 ⟨v321, rfl, ho0, hb⟩
    refine ⟨_, rfl, ?_⟩
    have n0_ := A_ (Kd.S_lower ho0 (below_size (Z2 GE317.out)))
    have n1_ := A_ (blk_below (g := gb317) (o := .cells #[.slice A1_0 l1_0.length c1_0, .int .i64 a1_1, .slice A1_2 l1_2.length c1_2, .int .i64 a1_3] 45 (0, 0)) (Z3 BK317.out) hb)
    have n2_ := A_ (below_step (Z2 GE317.out) hb)
    clear BK317
    clear HB
    have HO322 := n0_
    have BK317 := n1_
    have HB := n2_
    clear n0_ n1_ n2_
    (try clear hb)
    (try clear hb2)
    (try clear hk)
    (try clear hi)
    (try clear ho0)
    refine hK.out _ _ ⟨(blk_cell BK317.out 0).trans rfl, (blk_cell BK317.out 1).trans rfl, (blk_cell BK317.out 2).trans rfl, (blk_cell BK317.out 3).trans rfl⟩ (fun hHeld => ?_)
    clear hK K
    refine norm_ (a' := ?_) ?_ ?_
    rotate_left
    ·exact Z46
    refine one_ (i := 3) (N := some 23) #[T,T,T,T,F,F] rfl rfl (by kernel_rfl) (by decide) (fun K hK => ?_)
    refine goes_ Try.func22 (by kernel_rfl) rfl #[.agg #[.slice A1_0 l1_0.length c1_0, .int .i64 a1_1, .slice A1_2 l1_2.length c1_2, .int .i64 a1_3]] (by rfl) rfl rfl Z5 ?_
    with_reducible refine (laws_toUpdate.calls k _ _ l1_0 a1_1 _ _ l1_2 a1_3 t323 t326 t327 t330 _ ?side1 ?side2 ?side3 ?side4 A14.out).mono ?_
    (case side1 => exact Z4 HR1_0.out)
    (case side2 => exact HC1_0.out)
    (case side3 => exact Z4 HR1_2.out)
    (case side4 => exact HC1_2.out)
    rintro e w26 ⟨v324, v328, rfl, ho0, ho1, hb⟩
    refine ⟨_, rfl, ?_⟩
    have n0_ := A_ (Kd.S_elder' (Z15 HO322.out) (Kd.R_base ho0) hb)
    have n1_ := A_ (Kd.R_lower ho0 (below_size (Z2 GE317.out)))
    have n2_ := A_ (Kd.R_lower ho1 (below_size (Z2 GE317.out)))
    have n3_ := A_ (blk_below (g := gb317) (o := .cells #[.slice A1_0 l1_0.length c1_0, .int .i64 a1_1, .slice A1_2 l1_2.length c1_2, .int .i64 a1_3] 45 (0, 0)) (Z3 BK317.out) hb)
    have n4_ := A_ (below_step (Z2 GE317.out) hb)
    clear HO322
    clear BK317
    clear HB
    have HO322 := n0_
    have HO325 := n1_
    have HO329 := n2_
    have BK317 := n3_
    have HB := n4_
    clear n0_ n1_ n2_ n3_ n4_
    (try clear hb)
    (try clear hb2)
    (try clear hk)
    (try clear hi)
    (try clear ho0)
    (try clear ho1)
    obtain ⟨Ao27, co27, eo27⟩ := Kd.S_slice HO322.out
    (first | subst eo27 | (injection eo27 with f1_ f2_ f3_; have f4_ := f1_.symm; have f5_ := f3_.symm; clear f1_ f2_ f3_; subst f4_; subst f5_))
    obtain ⟨Ao28, co28, eo28⟩ := Kd.R_slice HO325.out
    (first | subst eo28 | (injection eo28 with f1_ f2_ f3_; have f4_ := f1_.symm; have f5_ := f3_.symm; clear f1_ f2_ f3_; subst f4_; subst f5_))
    obtain ⟨Ao29, co29, eo29⟩ := Kd.R_slice HO329.out
    (first | subst eo29 | (injection eo29 with f1_ f2_ f3_; have f4_ := f1_.symm; have f5_ := f3_.symm; clear f1_ f2_ f3_; subst f4_; subst f5_))
    refine hK.out _ _ ⟨(blk_cell BK317.out 0).trans rfl, (blk_cell BK317.out 1).trans rfl, (blk_cell BK317.out 2).trans rfl, (blk_cell BK317.out 3).trans rfl⟩ (fun hHeld => ?_)
    clear hK K
    refine norm_ (a' := ?_) ?_ ?_
    rotate_left
    ·exact Z45
    refine one_ (i := 4) (N := some 24) #[T,T,T,T,T,F] rfl rfl (by kernel_rfl) (by decide) (fun K hK => ?_)
    refine goes_ Try.func20 (by kernel_rfl) rfl #[.slice Ao27 t320.length co27, .agg #[.slice Ao28 t323.length co28, .int .i64 t326, .slice Ao29 t327.length co29, .int .i64 t330]] (by rfl) rfl rfl Z5 ?_
    with_reducible refine (spec_UpdateHas.calls k _ _ t320 _ _ t323 t326 _ _ t327 t330 t331 _ ?side1 ?side2 ?side3 ?side4 ?side5 ?side6 A15.out).mono ?_
    (case side1 => exact Z26 HO322.out)
    (case side2 => exact (Kd.S_reads' HO322.out).2.1)
    (case side3 => exact Z19 HO325.out)
    (case side4 => exact (Kd.R_reads' HO325.out).2.1)
    (case side5 => exact Z19 HO329.out)
    (case side6 => exact (Kd.R_reads' HO329.out).2.1)
    rintro e w30 ⟨rfl, hb⟩
    refine ⟨_, rfl, ?_⟩
    have n0_ := A_ (Kd.S_below (Z15 HO322.out) hb)
    have n1_ := A_ (Kd.R_below (Z12 HO325.out) hb)
    have n2_ := A_ (Kd.R_below (Z12 HO329.out) hb)
    have n3_ := A_ (blk_below (g := gb317) (o := .cells #[.slice A1_0 l1_0.length c1_0, .int .i64 a1_1, .slice A1_2 l1_2.length c1_2, .int .i64 a1_3] 45 (0, 0)) (Z3 BK317.out) hb)
    have n4_ := A_ (below_step (Z2 GE317.out) hb)
    clear HO322
    clear HO325
    clear HO329
    clear BK317
    clear HB
    have HO322 := n0_
    have HO325 := n1_
    have HO329 := n2_
    have BK317 := n3_
    have HB := n4_
    clear n0_ n1_ n2_ n3_ n4_
    (try clear hb)
    (try clear hb2)
    (try clear hk)
    (try clear hi)
    refine hK.out _ _ ⟨(blk_cell BK317.out 0).trans rfl, (blk_cell BK317.out 1).trans rfl, (blk_cell BK317.out 2).trans rfl, (blk_cell BK317.out 3).trans rfl⟩ (fun hHeld => ?_)
    clear hK K
    refine norm_ (a' := ?_) ?_ ?_
    rotate_left
    ·exact Z44
    refine pure_ (i := 5) (N := some 6) (v := ?_) (a' := ?_) #[T,T,T,T,T,T] rfl rfl (by kernel_rfl) ZF (Or.inl ⟨by rfl, ?_⟩) ?_ ?_
    rotate_left
    ·exact Z13
    rotate_left
    ·exact Z0
    refine done_ (by kernel_rfl) ?_
    try go_wp2_with (first | ((with_reducible refine gate_callee (f := 21) rfl ?_); refine goesL_ (some 26) rfl rfl Try.func21 (by kernel_rfl) rfl #[.slice A0 l0.length c0] rfl Z5 ?_; (with_reducible refine (laws_toCellS.calls k _ _ l0 t332 _ ?side1 ?side2 A16.out).mono ?_); (case side1 => exact Z4 HR0.out); (case side2 => exact HC0.out); rintro e w31 ⟨v333, rfl, ho0, hb⟩; refine ⟨_, rfl, ?_⟩; have n0_ := A_ (Kd.S_elder' (Z15 HO322.out) (Kd.S_base ho0) hb); have n1_ := A_ (Kd.R_below (Z12 HO325.out) hb); have n2_ := A_ (Kd.R_below (Z12 HO329.out) hb); have n3_ := A_ (Kd.S_lower (Kd.S_new' (Kd.S_new' ho0 (Kd.S_lt (Z15 HO322.out))) (Kd.R_lt (Z12 HO325.out))) (below_size (Z2 GE317.out))); have n4_ := A_ (blk_below (g := gb317) (o := .cells #[.slice A1_0 l1_0.length c1_0, .int .i64 a1_1, .slice A1_2 l1_2.length c1_2, .int .i64 a1_3] 45 (0, 0)) (Z3 BK317.out) hb); have n5_ := A_ (below_step (Z2 GE317.out) hb); clear HO322; clear HO325; clear HO329; clear BK317; clear HB; have HO322 := n0_; have HO325 := n1_; have HO329 := n2_; have HO334 := n3_; have BK317 := n4_; have HB := n5_; clear n0_ n1_ n2_ n3_ n4_ n5_; (try clear hb); (try clear hb2); (try clear hk); (try clear hi); (try clear ho0); have hcz32_0 : w31.cell? ⟨gb317, 0, none⟩ = some (.slice A1_0 l1_0.length c1_0) := (blk_cell BK317.out 0).trans rfl; have hcz32_1 : w31.cell? ⟨gb317, 1, none⟩ = some (.int .i64 a1_1) := (blk_cell BK317.out 1).trans rfl; have hcz32_2 : w31.cell? ⟨gb317, 2, none⟩ = some (.slice A1_2 l1_2.length c1_2) := (blk_cell BK317.out 2).trans rfl; have hcz32_3 : w31.cell? ⟨gb317, 3, none⟩ = some (.int .i64 a1_3) := (blk_cell BK317.out 3).trans rfl; have hfz32_0 := blk_frozen BK317.out 0; have hfz32_1 := blk_frozen BK317.out 1; have hfz32_2 := blk_frozen BK317.out 2; have hfz32_3 := blk_frozen BK317.out 3) | ((with_reducible refine gate_callee (f := 22) rfl ?_); refine goesL_ (some 28) rfl rfl Try.func22 (by kernel_rfl) rfl #[.agg #[.slice A1_0 l1_0.length c1_0, .int .i64 a1_1, .slice A1_2 l1_2.length c1_2, .int .i64 a1_3]] rfl Z5 ?_; (with_reducible refine (laws_toUpdate.calls k _ _ l1_0 a1_1 _ _ l1_2 a1_3 t335 t338 t339 t342 _ ?side1 ?side2 ?side3 ?side4 A17.out).mono ?_); (case side1 => exact Z4 HR1_0.out); (case side2 => exact HC1_0.out); (case side3 => exact Z4 HR1_2.out); (case side4 => exact HC1_2.out); rintro e w33 ⟨v336, v340, rfl, ho0, ho1, hb⟩; refine ⟨_, rfl, ?_⟩; have n0_ := A_ (Kd.S_elder' (Z15 HO322.out) (Kd.R_base ho0) hb); have n1_ := A_ (Kd.R_elder' (Z12 HO325.out) (Kd.R_base ho0) hb); have n2_ := A_ (Kd.R_elder' (Z12 HO329.out) (Kd.R_base ho1) hb); have n3_ := A_ (Kd.S_elder' (Z15 HO334.out) (Kd.R_base ho0) hb); have n4_ := A_ (Kd.R_lower (Kd.R_new' ho0 (Kd.R_lt (Z12 HO325.out))) (below_size (Z2 GE317.out))); have n5_ := A_ (Kd.R_lower (Kd.R_new' ho1 (Kd.R_lt (Z12 HO329.out))) (below_size (Z2 GE317.out))); have n6_ := A_ (blk_below (g := gb317) (o := .cells #[.slice A1_0 l1_0.length c1_0, .int .i64 a1_1, .slice A1_2 l1_2.length c1_2, .int .i64 a1_3] 45 (0, 0)) (Z3 BK317.out) hb); have n7_ := A_ (below_step (Z2 GE317.out) hb); clear HO322; clear HO325; clear HO329; clear HO334; clear BK317; clear HB; have HO322 := n0_; have HO325 := n1_; have HO329 := n2_; have HO334 := n3_; have HO337 := n4_; have HO341 := n5_; have BK317 := n6_; have HB := n7_; clear n0_ n1_ n2_ n3_ n4_ n5_ n6_ n7_; (try clear hb); (try clear hb2); (try clear hk); (try clear hi); (try clear ho0); (try clear ho1)) | ((with_reducible refine gate_dst (N := 8) rfl ?_); refine box_event ?hg (N := 8) ?hd (cs := #[.slice none 0 0, .int .i64 0, .slice none 0 0, .int .i64 0]) (t := 53) ?hr ?_; (case hd => rfl); (case hg => rfl); (case hr => exact Z16); intro gb343 hg w34 hbox hb; have n0_ := A_ (Kd.S_below (Z15 HO322.out) hb); have n1_ := A_ (Kd.R_below (Z12 HO325.out) hb); have n2_ := A_ (Kd.R_below (Z12 HO329.out) hb); have n3_ := A_ (Kd.S_below (Z15 HO334.out) hb); have n4_ := A_ (Kd.R_below (Z12 HO337.out) hb); have n5_ := A_ (Kd.R_below (Z12 HO341.out) hb); have n6_ := A_ (blk_below (g := gb317) (o := .cells #[.slice A1_0 l1_0.length c1_0, .int .i64 a1_1, .slice A1_2 l1_2.length c1_2, .int .i64 a1_3] 45 (0, 0)) (Z3 BK317.out) hb); have n7_ := A_ (below_step (Z2 GE317.out) hb); have n8_ := A_ (hbox); have n9_ := A_ ((by rw [hg]; exact (below_size (Z2 GE317.out)) : w.heap.size ≤ gb343)); have n10_ := A_ ((by rw [hg]; exact (below_size (Z2 GE317.out)) : w.heap.size ≤ gb343)); have n11_ := A_ ((by rw [hg]; exact Nat.ne_of_lt (blk_lt (g := gb317) (o := .cells #[.slice A1_0 l1_0.length c1_0, .int .i64 a1_1, .slice A1_2 l1_2.length c1_2, .int .i64 a1_3] 45 (0, 0)) (Z3 BK317.out)) : gb317 ≠ gb343)); have n12_ := A_ ((by rw [hg]; exact Nat.ne_of_gt (blk_lt (g := gb317) (o := .cells #[.slice A1_0 l1_0.length c1_0, .int .i64 a1_1, .slice A1_2 l1_2.length c1_2, .int .i64 a1_3] 45 (0, 0)) (Z3 BK317.out)) : gb343 ≠ gb317)); clear HO322; clear HO325; clear HO329; clear HO334; clear HO337; clear HO341; clear BK317; clear HB; have HO322 := n0_; have HO325 := n1_; have HO329 := n2_; have HO334 := n3_; have HO337 := n4_; have HO341 := n5_; have BK317 := n6_; have HB := n7_; have BK343 := n8_; have GW343 := n9_; have GE343 := n10_; have NB317_343 := n11_; have NB343_317 := n12_; clear n0_ n1_ n2_ n3_ n4_ n5_ n6_ n7_ n8_ n9_ n10_ n11_ n12_; clear hb hbox hg; obtain ⟨Ao35, co35, eo35⟩ := Kd.R_slice HO337.out; subst eo35; have hnb36 := NB343_317.out; have hnc36 := NB317_343.out; have hcz37_0 : w34.cell? ⟨gb343, 0, none⟩ = some (.slice none 0 0) := (blk_cell BK343.out 0).trans rfl; have hcz37_1 : w34.cell? ⟨gb343, 1, none⟩ = some (.int .i64 0) := (blk_cell BK343.out 1).trans rfl; have hcz37_2 : w34.cell? ⟨gb343, 2, none⟩ = some (.slice none 0 0) := (blk_cell BK343.out 2).trans rfl; have hcz37_3 : w34.cell? ⟨gb343, 3, none⟩ = some (.int .i64 0) := (blk_cell BK343.out 3).trans rfl; have hfz37_0 := blk_frozen BK343.out 0; have hfz37_1 := blk_frozen BK343.out 1; have hfz37_2 := blk_frozen BK343.out 2; have hfz37_3 := blk_frozen BK343.out 3; obtain ⟨Ao38, co38, eo38⟩ := Kd.R_slice HO341.out; subst eo38; obtain ⟨Ao39, co39, eo39⟩ := Kd.S_slice HO334.out; subst eo39) | ((with_reducible refine gate_callee (f := 23) rfl ?_); refine goesL_ (some 31) rfl rfl Try.func23 (by kernel_rfl) rfl #[.slice Ao39 t332.length co39, .agg #[.slice Ao35 t335.length co35, .int .i64 t338, .slice Ao38 t339.length co38, .int .i64 t342]] rfl Z5 ?_; (with_reducible refine (impl_UpdateHas.calls k _ _ t332 _ _ t335 t338 _ _ t339 t342 t344 _ ?side1 ?side2 ?side3 ?side4 ?side5 ?side6 A18.out).mono ?_); (case side1 => refine (Kd.S_reads' (e := 95) (base := w.heap.size) (ok := fun k_ => (((True ∧ some k_ ≠ (.slice Ao27 t320.length co27 : Value).ownBlock) ∧ some k_ ≠ (.slice Ao28 t323.length co28 : Value).ownBlock) ∧ some k_ ≠ (.slice Ao35 t335.length co35 : Value).ownBlock)) (n := t332.length) (c := co39) ?_).2.2; exact (by (with_reducible repeat (first | apply Kd.S_alloc | apply Kd.S_drewN | apply Kd.S_drew)); exact (Kd.S_mono (Kd.S_far (p := ⟨gb343, 3, none⟩) (Kd.S_far (p := ⟨gb343, 2, none⟩) (Kd.S_far (p := ⟨gb343, 1, none⟩) (Kd.S_far (p := ⟨gb343, 0, none⟩) (Kd.S_types HO334.out BK343.out (by decide)) (fun _ hk => hk.2) (.slice Ao35 t335.length co35)) (fun _ hk => hk.2) (.int .i64 t338)) (fun _ hk => hk.2) (.slice Ao38 t339.length co38)) (fun _ hk => hk.2) (.int .i64 t342)) (fun _ h_ => h_.1)))); (case side2 => exact (Kd.S_reads' HO334.out).2.1); (case side3 => refine (Kd.R_reads' (e := 121) (base := w.heap.size) (ok := fun k_ => (True ∧ some k_ ≠ (.slice Ao28 t323.length co28 : Value).ownBlock)) (n := t335.length) (c := co35) ?_).2.2; exact (Z23 HO337.out BK343.out)); (case side4 => exact (Kd.R_reads' HO337.out).2.1); (case side5 => refine (Kd.R_reads' (e := 126) (base := w.heap.size) (ok := fun k_ => (True ∧ some k_ ≠ (.slice Ao29 t327.length co29 : Value).ownBlock)) (n := t339.length) (c := co38) ?_).2.2; exact (Z23 HO341.out BK343.out)); (case side6 => exact (Kd.R_reads' HO341.out).2.1); rintro e w40 ⟨rfl, hb⟩; refine ⟨_, rfl, ?_⟩; have n0_ := A_ (Kd.S_below (by (with_reducible repeat (first | apply Kd.S_alloc | apply Kd.S_drewN | apply Kd.S_drew)); exact (Kd.S_mono (Kd.S_far (p := ⟨gb343, 3, none⟩) (Kd.S_far (p := ⟨gb343, 2, none⟩) (Kd.S_far (p := ⟨gb343, 1, none⟩) (Kd.S_far (p := ⟨gb343, 0, none⟩) (Kd.S_types HO322.out BK343.out (by decide)) (fun _ hk => hk.2) (.slice Ao35 t335.length co35)) (fun _ hk => hk.2) (.int .i64 t338)) (fun _ hk => hk.2) (.slice Ao38 t339.length co38)) (fun _ hk => hk.2) (.int .i64 t342)) (fun _ h_ => h_.1))) hb); have n1_ := A_ (Kd.R_below (Z23 HO325.out BK343.out) hb); have n2_ := A_ (Kd.R_below (Z23 HO329.out BK343.out) hb); have n3_ := A_ (Kd.S_below (by (with_reducible repeat (first | apply Kd.S_alloc | apply Kd.S_drewN | apply Kd.S_drew)); exact (Kd.S_mono (Kd.S_far (p := ⟨gb343, 3, none⟩) (Kd.S_far (p := ⟨gb343, 2, none⟩) (Kd.S_far (p := ⟨gb343, 1, none⟩) (Kd.S_far (p := ⟨gb343, 0, none⟩) (Kd.S_types HO334.out BK343.out (by decide)) (fun _ hk => hk.2) (.slice Ao35 t335.length co35)) (fun _ hk => hk.2) (.int .i64 t338)) (fun _ hk => hk.2) (.slice Ao38 t339.length co38)) (fun _ hk => hk.2) (.int .i64 t342)) (fun _ h_ => h_.1))) hb); have n4_ := A_ (Kd.R_below (Z23 HO337.out BK343.out) hb); have n5_ := A_ (Kd.R_below (Z23 HO341.out BK343.out) hb); have n6_ := A_ (blk_below (g := gb317) (o := .cells #[.slice A1_0 l1_0.length c1_0, .int .i64 a1_1, .slice A1_2 l1_2.length c1_2, .int .i64 a1_3] 45 (0, 0)) (Z25 NB317_343.out BK317.out) hb); have n7_ := A_ (blk_below (g := gb343) (o := .cells #[.slice Ao35 t335.length co35, .int .i64 t338, .slice Ao38 t339.length co38, .int .i64 t342] 53 (0, 0)) (by (with_reducible repeat (first | refine blk_drewN ?_ _ | refine blk_drew ?_ | refine blk_alloc ?_ _)); refine blk_put (cs := #[.slice Ao35 t335.length co35, .int .i64 t338, .slice Ao38 t339.length co38, .int .i64 0]) ?_ 3 _ rfl; (with_reducible repeat (first | refine blk_drewN ?_ _ | refine blk_drew ?_ | refine blk_alloc ?_ _)); refine blk_put (cs := #[.slice Ao35 t335.length co35, .int .i64 t338, .slice none 0 0, .int .i64 0]) ?_ 2 _ rfl; (with_reducible repeat (first | refine blk_drewN ?_ _ | refine blk_drew ?_ | refine blk_alloc ?_ _)); refine blk_put (cs := #[.slice Ao35 t335.length co35, .int .i64 0, .slice none 0 0, .int .i64 0]) ?_ 1 _ rfl; (with_reducible repeat (first | refine blk_drewN ?_ _ | refine blk_drew ?_ | refine blk_alloc ?_ _)); refine blk_put (cs := #[.slice none 0 0, .int .i64 0, .slice none 0 0, .int .i64 0]) ?_ 0 _ rfl; (with_reducible repeat (first | refine blk_drewN ?_ _ | refine blk_drew ?_ | refine blk_alloc ?_ _)); exact BK343.out) hb); have n8_ := A_ (below_step (Z6 GE317.out GE343.out) hb); clear HO322; clear HO325; clear HO329; clear HO334; clear HO337; clear HO341; clear BK317; clear BK343; clear HB; have HO322 := n0_; have HO325 := n1_; have HO329 := n2_; have HO334 := n3_; have HO337 := n4_; have HO341 := n5_; have BK317 := n6_; have BK343 := n7_; have HB := n8_; clear n0_ n1_ n2_ n3_ n4_ n5_ n6_ n7_ n8_; (try clear hb); (try clear hb2); (try clear hk); (try clear hi)))
    go_ret
    exact ⟨Z7, Z6 GE317.out GE343.out⟩
   ·rw [if_neg c19] at H
    have c19b0 : (t344 != t331) = false := by simpa using c19
    (try (have c19b1 : decide (t344 = t331) = true := by simpa using c19))
    (try (have c19b2 : (t344 == t331) = true := by simpa using c19))
    clear c19
    replace H := Option.bind_eq_some_iff.mp H
    obtain ⟨t345, A410, H⟩ := H
    replace H : ((laws_eqCellS.f k t332 t345).bind fun t348 => (if t348 = true then ((laws_toUpdate.f k l1_0 a1_1 l1_2 a1_3).bind fun bt349 => ((laws_eqUpdate.f k t335 t338 t339 t342 bt349.1 bt349.2.1 bt349.2.2.1 bt349.2.2.2).bind fun t357 => (if t357 = true then (some true) else (some false)))) else (some false))) = some r := H
    have A41 := A_ A410
    clear A410
    replace H := Option.bind_eq_some_iff.mp H
    obtain ⟨t348, A420, H⟩ := H
    replace H : (if t348 = true then ((laws_toUpdate.f k l1_0 a1_1 l1_2 a1_3).bind fun bt349 => ((laws_eqUpdate.f k t335 t338 t339 t342 bt349.1 bt349.2.1 bt349.2.2.1 bt349.2.2.2).bind fun t357 => (if t357 = true then (some true) else (some false)))) else (some false)) = some r := H
    have A42 := A_ A420
    clear A420
    by_cases c43 : t348 = true
    ·subst c43
     have H1 : ((laws_toUpdate.f k l1_0 a1_1 l1_2 a1_3).bind fun bt349 => ((laws_eqUpdate.f k t335 t338 t339 t342 bt349.1 bt349.2.1 bt349.2.2.1 bt349.2.2.2).bind fun t357 => (if t357 = true then (some true) else (some false)))) = some r := by rw [if_pos rfl] at H; exact H
     clear H
     have H := H1
     clear H1
     replace H := Option.bind_eq_some_iff.mp H
     obtain ⟨⟨t349, t352, t353, t356⟩, A440, H⟩ := H
     replace H : ((laws_eqUpdate.f k t335 t338 t339 t342 t349 t352 t353 t356).bind fun t357 => (if t357 = true then (some true) else (some false))) = some r := H
     have A44 := A_ A440
     clear A440
     replace H := Option.bind_eq_some_iff.mp H
     obtain ⟨t357, A450, H⟩ := H
     replace H : (if t357 = true then (some true) else (some false)) = some r := H
     have A45 := A_ A450
     clear A450
     by_cases c46 : t357 = true
     ·subst c46
      have H1 : (some true) = some r := by rw [if_pos rfl] at H; exact H
      clear H
      have H := H1
      clear H1
      obtain rfl := Option.some.inj H
      go_enter Try.func5, Try.ntmps5
      try go_wp2_with (first | ((with_reducible refine gate_dst (N := 3) rfl ?_); refine box_event ?hg (N := 3) ?hd (cs := #[.slice A1_0 l1_0.length c1_0, .int .i64 a1_1, .slice A1_2 l1_2.length c1_2, .int .i64 a1_3]) (t := 45) ?hr ?_; (case hd => rfl); (case hg => rfl); (case hr => exact Z16); intro gb317 hg w47 hbox hb; have n0_ := A_ (below_step Z1 hb); have n1_ := A_ (hbox); have n2_ := A_ ((by rw [hg]; exact (below_size Z1) : w.heap.size ≤ gb317)); have n3_ := A_ ((by rw [hg]; exact (below_size Z1) : w.heap.size ≤ gb317)); clear HB; have HB := n0_; have BK317 := n1_; have GW317 := n2_; have GE317 := n3_; clear n0_ n1_ n2_ n3_; clear hb hbox hg) | ((with_reducible refine gate_callee (f := 18) rfl ?_); refine goesL_ (some 12) rfl rfl Try.func18 (by kernel_rfl) rfl #[.slice A0 l0.length c0, .int .i64 1048576] rfl Z5 ?_; (with_reducible refine (laws_szCellS.calls k _ _ l0 1048576 t318 _ ?side1 ?side2 A3.out).mono ?_); (case side1 => exact Z4 HR0.out); (case side2 => exact HC0.out); rintro e w48 ⟨rfl, hb⟩; refine ⟨_, rfl, ?_⟩; have n0_ := A_ (blk_below (g := gb317) (o := .cells #[.slice A1_0 l1_0.length c1_0, .int .i64 a1_1, .slice A1_2 l1_2.length c1_2, .int .i64 a1_3] 45 (0, 0)) (Z3 BK317.out) hb); have n1_ := A_ (below_step (Z2 GE317.out) hb); clear BK317; clear HB; have BK317 := n0_; have HB := n1_; clear n0_ n1_; (try clear hb); (try clear hb2); (try clear hk); (try clear hi); have hcz49_0 : w48.cell? ⟨gb317, 0, none⟩ = some (.slice A1_0 l1_0.length c1_0) := (blk_cell BK317.out 0).trans rfl; have hcz49_1 : w48.cell? ⟨gb317, 1, none⟩ = some (.int .i64 a1_1) := (blk_cell BK317.out 1).trans rfl; have hcz49_2 : w48.cell? ⟨gb317, 2, none⟩ = some (.slice A1_2 l1_2.length c1_2) := (blk_cell BK317.out 2).trans rfl; have hcz49_3 : w48.cell? ⟨gb317, 3, none⟩ = some (.int .i64 a1_3) := (blk_cell BK317.out 3).trans rfl; have hfz49_0 := blk_frozen BK317.out 0; have hfz49_1 := blk_frozen BK317.out 1; have hfz49_2 := blk_frozen BK317.out 2; have hfz49_3 := blk_frozen BK317.out 3) | ((with_reducible refine gate_callee (f := 19) rfl ?_); refine goesL_ (some 17) rfl rfl Try.func19 (by kernel_rfl) rfl #[.agg #[.slice A1_0 l1_0.length c1_0, .int .i64 a1_1, .slice A1_2 l1_2.length c1_2, .int .i64 a1_3], .int .i64 t318] rfl Z5 ?_; (with_reducible refine (laws_szUpdate.calls k _ _ l1_0 a1_1 _ _ l1_2 a1_3 t318 t319 _ ?side1 ?side2 ?side3 ?side4 A7.out).mono ?_); (case side1 => exact Z4 HR1_0.out); (case side2 => exact HC1_0.out); (case side3 => exact Z4 HR1_2.out); (case side4 => exact HC1_2.out); rintro e w50 ⟨rfl, hb⟩; refine ⟨_, rfl, ?_⟩; have n0_ := A_ (blk_below (g := gb317) (o := .cells #[.slice A1_0 l1_0.length c1_0, .int .i64 a1_1, .slice A1_2 l1_2.length c1_2, .int .i64 a1_3] 45 (0, 0)) (Z3 BK317.out) hb); have n1_ := A_ (below_step (Z2 GE317.out) hb); clear BK317; clear HB; have BK317 := n0_; have HB := n1_; clear n0_ n1_; (try clear hb); (try clear hb2); (try clear hk); (try clear hi)))
      have n0_ := A_ (blk_drew BK317.out)
      have n1_ := A_ (below_drew1 HB.out)
      clear BK317
      clear HB
      have BK317 := n0_
      have HB := n1_
      clear n0_ n1_
      refine start_ (n := 6) (S := fun w' => w'.cell? ⟨gb317, 0, none⟩ = some (.slice A1_0 l1_0.length c1_0) ∧ w'.cell? ⟨gb317, 1, none⟩ = some (.int .i64 a1_1) ∧ w'.cell? ⟨gb317, 2, none⟩ = some (.slice A1_2 l1_2.length c1_2) ∧ w'.cell? ⟨gb317, 3, none⟩ = some (.int .i64 a1_3)) (ds := []) #[F,F,F,F,F,F] (by kernel_rfl) rfl rfl ⟨(blk_cell BK317.out 0).trans rfl, (blk_cell BK317.out 1).trans rfl, (blk_cell BK317.out 2).trans rfl, (blk_cell BK317.out 3).trans rfl⟩ (fun hHeld => ?_)
      generalize w50.drew = w51 at BK317 HB hHeld ⊢
      refine pure_ (i := 0) (N := some 20) (v := ?_) (a' := ?_) #[T,F,F,F,F,F] rfl rfl (by kernel_rfl) ZF (Or.inl ⟨by rfl, ?_⟩) ?_ ?_
      rotate_left
      ·exact Z13
      rotate_left
      ·exact Z0
      refine take_ (i := 2) (N := some 22) (v := ?_) (a' := ?_) #[T,F,T,F,F,F] rfl rfl (by kernel_rfl) ZF (Or.inl ⟨by rfl, ?_⟩) hHeld ?_ ?_
      rotate_left
      ·exact Z28
      rotate_left
      ·exact Z0
      refine one_ (i := 1) (N := some 21) #[T,T,T,F,F,F] rfl rfl (by kernel_rfl) (by decide) (fun K hK => ?_)
      refine goes_ Try.func21 (by kernel_rfl) rfl #[.slice A0 l0.length c0] (by rfl) rfl rfl Z5 ?_
      with_reducible refine (laws_toCellS.calls k _ _ l0 t320 _ ?side1 ?side2 A13.out).mono ?_
      (case side1 => exact Z4 HR0.out)
      (case side2 => exact HC0.out)
      rintro e w52 ⟨v321, rfl, ho0, hb⟩
      refine ⟨_, rfl, ?_⟩
      have n0_ := A_ (Kd.S_lower ho0 (below_size (Z2 GE317.out)))
      have n1_ := A_ (blk_below (g := gb317) (o := .cells #[.slice A1_0 l1_0.length c1_0, .int .i64 a1_1, .slice A1_2 l1_2.length c1_2, .int .i64 a1_3] 45 (0, 0)) (Z3 BK317.out) hb)
      have n2_ := A_ (below_step (Z2 GE317.out) hb)
      clear BK317
      clear HB
      have HO322 := n0_
      have BK317 := n1_
      have HB := n2_
      clear n0_ n1_ n2_
      (try clear hb)
      (try clear hb2)
      (try clear hk)
      (try clear hi)
      (try clear ho0)
      refine hK.out _ _ ⟨(blk_cell BK317.out 0).trans rfl, (blk_cell BK317.out 1).trans rfl, (blk_cell BK317.out 2).trans rfl, (blk_cell BK317.out 3).trans rfl⟩ (fun hHeld => ?_)
      clear hK K
      refine norm_ (a' := ?_) ?_ ?_
      rotate_left
      ·exact Z46
      refine one_ (i := 3) (N := some 23) #[T,T,T,T,F,F] rfl rfl (by kernel_rfl) (by decide) (fun K hK => ?_)
      refine goes_ Try.func22 (by kernel_rfl) rfl #[.agg #[.slice A1_0 l1_0.length c1_0, .int .i64 a1_1, .slice A1_2 l1_2.length c1_2, .int .i64 a1_3]] (by rfl) rfl rfl Z5 ?_
      with_reducible refine (laws_toUpdate.calls k _ _ l1_0 a1_1 _ _ l1_2 a1_3 t323 t326 t327 t330 _ ?side1 ?side2 ?side3 ?side4 A14.out).mono ?_
      (case side1 => exact Z4 HR1_0.out)
      (case side2 => exact HC1_0.out)
      (case side3 => exact Z4 HR1_2.out)
      (case side4 => exact HC1_2.out)
      rintro e w53 ⟨v324, v328, rfl, ho0, ho1, hb⟩
      refine ⟨_, rfl, ?_⟩
      have n0_ := A_ (Kd.S_elder' (Z15 HO322.out) (Kd.R_base ho0) hb)
      have n1_ := A_ (Kd.R_lower ho0 (below_size (Z2 GE317.out)))
      have n2_ := A_ (Kd.R_lower ho1 (below_size (Z2 GE317.out)))
      have n3_ := A_ (blk_below (g := gb317) (o := .cells #[.slice A1_0 l1_0.length c1_0, .int .i64 a1_1, .slice A1_2 l1_2.length c1_2, .int .i64 a1_3] 45 (0, 0)) (Z3 BK317.out) hb)
      have n4_ := A_ (below_step (Z2 GE317.out) hb)
      clear HO322
      clear BK317
      clear HB
      have HO322 := n0_
      have HO325 := n1_
      have HO329 := n2_
      have BK317 := n3_
      have HB := n4_
      clear n0_ n1_ n2_ n3_ n4_
      (try clear hb)
      (try clear hb2)
      (try clear hk)
      (try clear hi)
      (try clear ho0)
      (try clear ho1)
      obtain ⟨Ao54, co54, eo54⟩ := Kd.S_slice HO322.out
      (first | subst eo54 | (injection eo54 with f1_ f2_ f3_; have f4_ := f1_.symm; have f5_ := f3_.symm; clear f1_ f2_ f3_; subst f4_; subst f5_))
      obtain ⟨Ao55, co55, eo55⟩ := Kd.R_slice HO325.out
      (first | subst eo55 | (injection eo55 with f1_ f2_ f3_; have f4_ := f1_.symm; have f5_ := f3_.symm; clear f1_ f2_ f3_; subst f4_; subst f5_))
      obtain ⟨Ao56, co56, eo56⟩ := Kd.R_slice HO329.out
      (first | subst eo56 | (injection eo56 with f1_ f2_ f3_; have f4_ := f1_.symm; have f5_ := f3_.symm; clear f1_ f2_ f3_; subst f4_; subst f5_))
      refine hK.out _ _ ⟨(blk_cell BK317.out 0).trans rfl, (blk_cell BK317.out 1).trans rfl, (blk_cell BK317.out 2).trans rfl, (blk_cell BK317.out 3).trans rfl⟩ (fun hHeld => ?_)
      clear hK K
      refine norm_ (a' := ?_) ?_ ?_
      rotate_left
      ·exact Z45
      refine one_ (i := 4) (N := some 24) #[T,T,T,T,T,F] rfl rfl (by kernel_rfl) (by decide) (fun K hK => ?_)
      refine goes_ Try.func20 (by kernel_rfl) rfl #[.slice Ao54 t320.length co54, .agg #[.slice Ao55 t323.length co55, .int .i64 t326, .slice Ao56 t327.length co56, .int .i64 t330]] (by rfl) rfl rfl Z5 ?_
      with_reducible refine (spec_UpdateHas.calls k _ _ t320 _ _ t323 t326 _ _ t327 t330 t331 _ ?side1 ?side2 ?side3 ?side4 ?side5 ?side6 A15.out).mono ?_
      (case side1 => exact Z26 HO322.out)
      (case side2 => exact (Kd.S_reads' HO322.out).2.1)
      (case side3 => exact Z19 HO325.out)
      (case side4 => exact (Kd.R_reads' HO325.out).2.1)
      (case side5 => exact Z19 HO329.out)
      (case side6 => exact (Kd.R_reads' HO329.out).2.1)
      rintro e w57 ⟨rfl, hb⟩
      refine ⟨_, rfl, ?_⟩
      have n0_ := A_ (Kd.S_below (Z15 HO322.out) hb)
      have n1_ := A_ (Kd.R_below (Z12 HO325.out) hb)
      have n2_ := A_ (Kd.R_below (Z12 HO329.out) hb)
      have n3_ := A_ (blk_below (g := gb317) (o := .cells #[.slice A1_0 l1_0.length c1_0, .int .i64 a1_1, .slice A1_2 l1_2.length c1_2, .int .i64 a1_3] 45 (0, 0)) (Z3 BK317.out) hb)
      have n4_ := A_ (below_step (Z2 GE317.out) hb)
      clear HO322
      clear HO325
      clear HO329
      clear BK317
      clear HB
      have HO322 := n0_
      have HO325 := n1_
      have HO329 := n2_
      have BK317 := n3_
      have HB := n4_
      clear n0_ n1_ n2_ n3_ n4_
      (try clear hb)
      (try clear hb2)
      (try clear hk)
      (try clear hi)
      refine hK.out _ _ ⟨(blk_cell BK317.out 0).trans rfl, (blk_cell BK317.out 1).trans rfl, (blk_cell BK317.out 2).trans rfl, (blk_cell BK317.out 3).trans rfl⟩ (fun hHeld => ?_)
      clear hK K
      refine norm_ (a' := ?_) ?_ ?_
      rotate_left
      ·exact Z44
      refine pure_ (i := 5) (N := some 6) (v := ?_) (a' := ?_) #[T,T,T,T,T,T] rfl rfl (by kernel_rfl) ZF (Or.inl ⟨by rfl, ?_⟩) ?_ ?_
      rotate_left
      ·exact Z13
      rotate_left
      ·exact Z0
      refine done_ (by kernel_rfl) ?_
      try go_wp2_with (first | ((with_reducible refine gate_callee (f := 21) rfl ?_); refine goesL_ (some 26) rfl rfl Try.func21 (by kernel_rfl) rfl #[.slice A0 l0.length c0] rfl Z5 ?_; (with_reducible refine (laws_toCellS.calls k _ _ l0 t332 _ ?side1 ?side2 A16.out).mono ?_); (case side1 => exact Z4 HR0.out); (case side2 => exact HC0.out); rintro e w58 ⟨v333, rfl, ho0, hb⟩; refine ⟨_, rfl, ?_⟩; have n0_ := A_ (Kd.S_elder' (Z15 HO322.out) (Kd.S_base ho0) hb); have n1_ := A_ (Kd.R_below (Z12 HO325.out) hb); have n2_ := A_ (Kd.R_below (Z12 HO329.out) hb); have n3_ := A_ (Kd.S_lower (Kd.S_new' (Kd.S_new' ho0 (Kd.S_lt (Z15 HO322.out))) (Kd.R_lt (Z12 HO325.out))) (below_size (Z2 GE317.out))); have n4_ := A_ (blk_below (g := gb317) (o := .cells #[.slice A1_0 l1_0.length c1_0, .int .i64 a1_1, .slice A1_2 l1_2.length c1_2, .int .i64 a1_3] 45 (0, 0)) (Z3 BK317.out) hb); have n5_ := A_ (below_step (Z2 GE317.out) hb); clear HO322; clear HO325; clear HO329; clear BK317; clear HB; have HO322 := n0_; have HO325 := n1_; have HO329 := n2_; have HO334 := n3_; have BK317 := n4_; have HB := n5_; clear n0_ n1_ n2_ n3_ n4_ n5_; (try clear hb); (try clear hb2); (try clear hk); (try clear hi); (try clear ho0); have hcz59_0 : w58.cell? ⟨gb317, 0, none⟩ = some (.slice A1_0 l1_0.length c1_0) := (blk_cell BK317.out 0).trans rfl; have hcz59_1 : w58.cell? ⟨gb317, 1, none⟩ = some (.int .i64 a1_1) := (blk_cell BK317.out 1).trans rfl; have hcz59_2 : w58.cell? ⟨gb317, 2, none⟩ = some (.slice A1_2 l1_2.length c1_2) := (blk_cell BK317.out 2).trans rfl; have hcz59_3 : w58.cell? ⟨gb317, 3, none⟩ = some (.int .i64 a1_3) := (blk_cell BK317.out 3).trans rfl; have hfz59_0 := blk_frozen BK317.out 0; have hfz59_1 := blk_frozen BK317.out 1; have hfz59_2 := blk_frozen BK317.out 2; have hfz59_3 := blk_frozen BK317.out 3) | ((with_reducible refine gate_callee (f := 22) rfl ?_); refine goesL_ (some 28) rfl rfl Try.func22 (by kernel_rfl) rfl #[.agg #[.slice A1_0 l1_0.length c1_0, .int .i64 a1_1, .slice A1_2 l1_2.length c1_2, .int .i64 a1_3]] rfl Z5 ?_; (with_reducible refine (laws_toUpdate.calls k _ _ l1_0 a1_1 _ _ l1_2 a1_3 t335 t338 t339 t342 _ ?side1 ?side2 ?side3 ?side4 A17.out).mono ?_); (case side1 => exact Z4 HR1_0.out); (case side2 => exact HC1_0.out); (case side3 => exact Z4 HR1_2.out); (case side4 => exact HC1_2.out); rintro e w60 ⟨v336, v340, rfl, ho0, ho1, hb⟩; refine ⟨_, rfl, ?_⟩; have n0_ := A_ (Kd.S_elder' (Z15 HO322.out) (Kd.R_base ho0) hb); have n1_ := A_ (Kd.R_elder' (Z12 HO325.out) (Kd.R_base ho0) hb); have n2_ := A_ (Kd.R_elder' (Z12 HO329.out) (Kd.R_base ho1) hb); have n3_ := A_ (Kd.S_elder' (Z15 HO334.out) (Kd.R_base ho0) hb); have n4_ := A_ (Kd.R_lower (Kd.R_new' ho0 (Kd.R_lt (Z12 HO325.out))) (below_size (Z2 GE317.out))); have n5_ := A_ (Kd.R_lower (Kd.R_new' ho1 (Kd.R_lt (Z12 HO329.out))) (below_size (Z2 GE317.out))); have n6_ := A_ (blk_below (g := gb317) (o := .cells #[.slice A1_0 l1_0.length c1_0, .int .i64 a1_1, .slice A1_2 l1_2.length c1_2, .int .i64 a1_3] 45 (0, 0)) (Z3 BK317.out) hb); have n7_ := A_ (below_step (Z2 GE317.out) hb); clear HO322; clear HO325; clear HO329; clear HO334; clear BK317; clear HB; have HO322 := n0_; have HO325 := n1_; have HO329 := n2_; have HO334 := n3_; have HO337 := n4_; have HO341 := n5_; have BK317 := n6_; have HB := n7_; clear n0_ n1_ n2_ n3_ n4_ n5_ n6_ n7_; (try clear hb); (try clear hb2); (try clear hk); (try clear hi); (try clear ho0); (try clear ho1)) | ((with_reducible refine gate_dst (N := 8) rfl ?_); refine box_event ?hg (N := 8) ?hd (cs := #[.slice none 0 0, .int .i64 0, .slice none 0 0, .int .i64 0]) (t := 53) ?hr ?_; (case hd => rfl); (case hg => rfl); (case hr => exact Z16); intro gb343 hg w61 hbox hb; have n0_ := A_ (Kd.S_below (Z15 HO322.out) hb); have n1_ := A_ (Kd.R_below (Z12 HO325.out) hb); have n2_ := A_ (Kd.R_below (Z12 HO329.out) hb); have n3_ := A_ (Kd.S_below (Z15 HO334.out) hb); have n4_ := A_ (Kd.R_below (Z12 HO337.out) hb); have n5_ := A_ (Kd.R_below (Z12 HO341.out) hb); have n6_ := A_ (blk_below (g := gb317) (o := .cells #[.slice A1_0 l1_0.length c1_0, .int .i64 a1_1, .slice A1_2 l1_2.length c1_2, .int .i64 a1_3] 45 (0, 0)) (Z3 BK317.out) hb); have n7_ := A_ (below_step (Z2 GE317.out) hb); have n8_ := A_ (hbox); have n9_ := A_ ((by rw [hg]; exact (below_size (Z2 GE317.out)) : w.heap.size ≤ gb343)); have n10_ := A_ ((by rw [hg]; exact (below_size (Z2 GE317.out)) : w.heap.size ≤ gb343)); have n11_ := A_ ((by rw [hg]; exact Nat.ne_of_lt (blk_lt (g := gb317) (o := .cells #[.slice A1_0 l1_0.length c1_0, .int .i64 a1_1, .slice A1_2 l1_2.length c1_2, .int .i64 a1_3] 45 (0, 0)) (Z3 BK317.out)) : gb317 ≠ gb343)); have n12_ := A_ ((by rw [hg]; exact Nat.ne_of_gt (blk_lt (g := gb317) (o := .cells #[.slice A1_0 l1_0.length c1_0, .int .i64 a1_1, .slice A1_2 l1_2.length c1_2, .int .i64 a1_3] 45 (0, 0)) (Z3 BK317.out)) : gb343 ≠ gb317)); clear HO322; clear HO325; clear HO329; clear HO334; clear HO337; clear HO341; clear BK317; clear HB; have HO322 := n0_; have HO325 := n1_; have HO329 := n2_; have HO334 := n3_; have HO337 := n4_; have HO341 := n5_; have BK317 := n6_; have HB := n7_; have BK343 := n8_; have GW343 := n9_; have GE343 := n10_; have NB317_343 := n11_; have NB343_317 := n12_; clear n0_ n1_ n2_ n3_ n4_ n5_ n6_ n7_ n8_ n9_ n10_ n11_ n12_; clear hb hbox hg; obtain ⟨Ao62, co62, eo62⟩ := Kd.R_slice HO337.out; subst eo62; have hnb63 := NB343_317.out; have hnc63 := NB317_343.out; have hcz64_0 : w61.cell? ⟨gb343, 0, none⟩ = some (.slice none 0 0) := (blk_cell BK343.out 0).trans rfl; have hcz64_1 : w61.cell? ⟨gb343, 1, none⟩ = some (.int .i64 0) := (blk_cell BK343.out 1).trans rfl; have hcz64_2 : w61.cell? ⟨gb343, 2, none⟩ = some (.slice none 0 0) := (blk_cell BK343.out 2).trans rfl; have hcz64_3 : w61.cell? ⟨gb343, 3, none⟩ = some (.int .i64 0) := (blk_cell BK343.out 3).trans rfl; have hfz64_0 := blk_frozen BK343.out 0; have hfz64_1 := blk_frozen BK343.out 1; have hfz64_2 := blk_frozen BK343.out 2; have hfz64_3 := blk_frozen BK343.out 3; obtain ⟨Ao65, co65, eo65⟩ := Kd.R_slice HO341.out; subst eo65; obtain ⟨Ao66, co66, eo66⟩ := Kd.S_slice HO334.out; subst eo66) | ((with_reducible refine gate_callee (f := 23) rfl ?_); refine goesL_ (some 31) rfl rfl Try.func23 (by kernel_rfl) rfl #[.slice Ao66 t332.length co66, .agg #[.slice Ao62 t335.length co62, .int .i64 t338, .slice Ao65 t339.length co65, .int .i64 t342]] rfl Z5 ?_; (with_reducible refine (impl_UpdateHas.calls k _ _ t332 _ _ t335 t338 _ _ t339 t342 t344 _ ?side1 ?side2 ?side3 ?side4 ?side5 ?side6 A18.out).mono ?_); (case side1 => refine (Kd.S_reads' (e := 95) (base := w.heap.size) (ok := fun k_ => (((True ∧ some k_ ≠ (.slice Ao54 t320.length co54 : Value).ownBlock) ∧ some k_ ≠ (.slice Ao55 t323.length co55 : Value).ownBlock) ∧ some k_ ≠ (.slice Ao62 t335.length co62 : Value).ownBlock)) (n := t332.length) (c := co66) ?_).2.2; exact (by (with_reducible repeat (first | apply Kd.S_alloc | apply Kd.S_drewN | apply Kd.S_drew)); exact (Kd.S_mono (Kd.S_far (p := ⟨gb343, 3, none⟩) (Kd.S_far (p := ⟨gb343, 2, none⟩) (Kd.S_far (p := ⟨gb343, 1, none⟩) (Kd.S_far (p := ⟨gb343, 0, none⟩) (Kd.S_types HO334.out BK343.out (by decide)) (fun _ hk => hk.2) (.slice Ao62 t335.length co62)) (fun _ hk => hk.2) (.int .i64 t338)) (fun _ hk => hk.2) (.slice Ao65 t339.length co65)) (fun _ hk => hk.2) (.int .i64 t342)) (fun _ h_ => h_.1)))); (case side2 => exact (Kd.S_reads' HO334.out).2.1); (case side3 => refine (Kd.R_reads' (e := 121) (base := w.heap.size) (ok := fun k_ => (True ∧ some k_ ≠ (.slice Ao55 t323.length co55 : Value).ownBlock)) (n := t335.length) (c := co62) ?_).2.2; exact (Z22 HO337.out BK343.out)); (case side4 => exact (Kd.R_reads' HO337.out).2.1); (case side5 => refine (Kd.R_reads' (e := 126) (base := w.heap.size) (ok := fun k_ => (True ∧ some k_ ≠ (.slice Ao56 t327.length co56 : Value).ownBlock)) (n := t339.length) (c := co65) ?_).2.2; exact (Z22 HO341.out BK343.out)); (case side6 => exact (Kd.R_reads' HO341.out).2.1); rintro e w67 ⟨rfl, hb⟩; refine ⟨_, rfl, ?_⟩; have n0_ := A_ (Kd.S_below (by (with_reducible repeat (first | apply Kd.S_alloc | apply Kd.S_drewN | apply Kd.S_drew)); exact (Kd.S_mono (Kd.S_far (p := ⟨gb343, 3, none⟩) (Kd.S_far (p := ⟨gb343, 2, none⟩) (Kd.S_far (p := ⟨gb343, 1, none⟩) (Kd.S_far (p := ⟨gb343, 0, none⟩) (Kd.S_types HO322.out BK343.out (by decide)) (fun _ hk => hk.2) (.slice Ao62 t335.length co62)) (fun _ hk => hk.2) (.int .i64 t338)) (fun _ hk => hk.2) (.slice Ao65 t339.length co65)) (fun _ hk => hk.2) (.int .i64 t342)) (fun _ h_ => h_.1))) hb); have n1_ := A_ (Kd.R_below (Z22 HO325.out BK343.out) hb); have n2_ := A_ (Kd.R_below (Z22 HO329.out BK343.out) hb); have n3_ := A_ (Kd.S_below (by (with_reducible repeat (first | apply Kd.S_alloc | apply Kd.S_drewN | apply Kd.S_drew)); exact (Kd.S_mono (Kd.S_far (p := ⟨gb343, 3, none⟩) (Kd.S_far (p := ⟨gb343, 2, none⟩) (Kd.S_far (p := ⟨gb343, 1, none⟩) (Kd.S_far (p := ⟨gb343, 0, none⟩) (Kd.S_types HO334.out BK343.out (by decide)) (fun _ hk => hk.2) (.slice Ao62 t335.length co62)) (fun _ hk => hk.2) (.int .i64 t338)) (fun _ hk => hk.2) (.slice Ao65 t339.length co65)) (fun _ hk => hk.2) (.int .i64 t342)) (fun _ h_ => h_.1))) hb); have n4_ := A_ (Kd.R_below (Z22 HO337.out BK343.out) hb); have n5_ := A_ (Kd.R_below (Z22 HO341.out BK343.out) hb); have n6_ := A_ (blk_below (g := gb317) (o := .cells #[.slice A1_0 l1_0.length c1_0, .int .i64 a1_1, .slice A1_2 l1_2.length c1_2, .int .i64 a1_3] 45 (0, 0)) (Z25 NB317_343.out BK317.out) hb); have n7_ := A_ (blk_below (g := gb343) (o := .cells #[.slice Ao62 t335.length co62, .int .i64 t338, .slice Ao65 t339.length co65, .int .i64 t342] 53 (0, 0)) (by (with_reducible repeat (first | refine blk_drewN ?_ _ | refine blk_drew ?_ | refine blk_alloc ?_ _)); refine blk_put (cs := #[.slice Ao62 t335.length co62, .int .i64 t338, .slice Ao65 t339.length co65, .int .i64 0]) ?_ 3 _ rfl; (with_reducible repeat (first | refine blk_drewN ?_ _ | refine blk_drew ?_ | refine blk_alloc ?_ _)); refine blk_put (cs := #[.slice Ao62 t335.length co62, .int .i64 t338, .slice none 0 0, .int .i64 0]) ?_ 2 _ rfl; (with_reducible repeat (first | refine blk_drewN ?_ _ | refine blk_drew ?_ | refine blk_alloc ?_ _)); refine blk_put (cs := #[.slice Ao62 t335.length co62, .int .i64 0, .slice none 0 0, .int .i64 0]) ?_ 1 _ rfl; (with_reducible repeat (first | refine blk_drewN ?_ _ | refine blk_drew ?_ | refine blk_alloc ?_ _)); refine blk_put (cs := #[.slice none 0 0, .int .i64 0, .slice none 0 0, .int .i64 0]) ?_ 0 _ rfl; (with_reducible repeat (first | refine blk_drewN ?_ _ | refine blk_drew ?_ | refine blk_alloc ?_ _)); exact BK343.out) hb); have n8_ := A_ (below_step (Z6 GE317.out GE343.out) hb); clear HO322; clear HO325; clear HO329; clear HO334; clear HO337; clear HO341; clear BK317; clear BK343; clear HB; have HO322 := n0_; have HO325 := n1_; have HO329 := n2_; have HO334 := n3_; have HO337 := n4_; have HO341 := n5_; have BK317 := n6_; have BK343 := n7_; have HB := n8_; clear n0_ n1_ n2_ n3_ n4_ n5_ n6_ n7_ n8_; (try clear hb); (try clear hb2); (try clear hk); (try clear hi)) | ((with_reducible refine gate_callee (f := 21) rfl ?_); refine goesL_ (some 37) rfl rfl Try.func21 (by kernel_rfl) rfl #[.slice A0 l0.length c0] rfl Z5 ?_; (with_reducible refine (laws_toCellS.calls k _ _ l0 t345 _ ?side1 ?side2 A41.out).mono ?_); (case side1 => exact Z4 HR0.out); (case side2 => exact HC0.out); rintro e w68 ⟨v346, rfl, ho0, hb⟩; refine ⟨_, rfl, ?_⟩; have n0_ := A_ (Kd.S_elder' (Z15 HO322.out) (Kd.S_base ho0) hb); have n1_ := A_ (Kd.R_below (Z12 HO325.out) hb); have n2_ := A_ (Kd.R_below (Z12 HO329.out) hb); have n3_ := A_ (Kd.S_elder' (Z15 HO334.out) (Kd.S_base ho0) hb); have n4_ := A_ (Kd.R_below (Z12 HO337.out) hb); have n5_ := A_ (Kd.R_below (Z12 HO341.out) hb); have n6_ := A_ (Kd.S_lower (Kd.S_new' (Kd.S_new' (Kd.S_new' (Kd.S_new' ho0 (Kd.S_lt (Z15 HO322.out))) (Kd.R_lt (Z12 HO325.out))) (Kd.S_lt (Z15 HO334.out))) (Kd.R_lt (Z12 HO337.out))) (below_size (Z6 GE317.out GE343.out))); have n7_ := A_ (blk_below (g := gb317) (o := .cells #[.slice A1_0 l1_0.length c1_0, .int .i64 a1_1, .slice A1_2 l1_2.length c1_2, .int .i64 a1_3] 45 (0, 0)) (Z3 BK317.out) hb); have n8_ := A_ (blk_below (g := gb343) (o := .cells #[.slice Ao62 t335.length co62, .int .i64 t338, .slice Ao65 t339.length co65, .int .i64 t342] 53 (0, 0)) (Z3 BK343.out) hb); have n9_ := A_ (below_step (Z6 GE317.out GE343.out) hb); clear HO322; clear HO325; clear HO329; clear HO334; clear HO337; clear HO341; clear BK317; clear BK343; clear HB; have HO322 := n0_; have HO325 := n1_; have HO329 := n2_; have HO334 := n3_; have HO337 := n4_; have HO341 := n5_; have HO347 := n6_; have BK317 := n7_; have BK343 := n8_; have HB := n9_; clear n0_ n1_ n2_ n3_ n4_ n5_ n6_ n7_ n8_ n9_; (try clear hb); (try clear hb2); (try clear hk); (try clear hi); (try clear ho0); obtain ⟨Ao69, co69, eo69⟩ := Kd.S_slice HO347.out; subst eo69) | ((with_reducible refine gate_callee (f := 24) rfl ?_); refine goesL_ (some 38) rfl rfl Try.func24 (by kernel_rfl) rfl #[.slice Ao66 t332.length co66, .slice Ao69 t345.length co69] rfl Z5 ?_; (with_reducible refine (laws_eqCellS.calls k _ _ t332 _ _ t345 true _ ?side1 ?side2 ?side3 ?side4 A42.out).mono ?_); (case side1 => exact Z26 HO334.out); (case side2 => exact (Kd.S_reads' HO334.out).2.1); (case side3 => exact Z26 HO347.out); (case side4 => exact (Kd.S_reads' HO347.out).2.1); rintro e w70 ⟨rfl, hb⟩; refine ⟨_, rfl, ?_⟩; have n0_ := A_ (Kd.S_below (Z15 HO322.out) hb); have n1_ := A_ (Kd.R_below (Z12 HO325.out) hb); have n2_ := A_ (Kd.R_below (Z12 HO329.out) hb); have n3_ := A_ (Kd.S_below (Z15 HO334.out) hb); have n4_ := A_ (Kd.R_below (Z12 HO337.out) hb); have n5_ := A_ (Kd.R_below (Z12 HO341.out) hb); have n6_ := A_ (Kd.S_below (Z15 HO347.out) hb); have n7_ := A_ (blk_below (g := gb317) (o := .cells #[.slice A1_0 l1_0.length c1_0, .int .i64 a1_1, .slice A1_2 l1_2.length c1_2, .int .i64 a1_3] 45 (0, 0)) (Z3 BK317.out) hb); have n8_ := A_ (blk_below (g := gb343) (o := .cells #[.slice Ao62 t335.length co62, .int .i64 t338, .slice Ao65 t339.length co65, .int .i64 t342] 53 (0, 0)) (Z3 BK343.out) hb); have n9_ := A_ (below_step (Z6 GE317.out GE343.out) hb); clear HO322; clear HO325; clear HO329; clear HO334; clear HO337; clear HO341; clear HO347; clear BK317; clear BK343; clear HB; have HO322 := n0_; have HO325 := n1_; have HO329 := n2_; have HO334 := n3_; have HO337 := n4_; have HO341 := n5_; have HO347 := n6_; have BK317 := n7_; have BK343 := n8_; have HB := n9_; clear n0_ n1_ n2_ n3_ n4_ n5_ n6_ n7_ n8_ n9_; (try clear hb); (try clear hb2); (try clear hk); (try clear hi)))
      have n0_ := A_ (Kd.S_drew HO322.out)
      have n1_ := A_ (Kd.R_drew HO325.out)
      have n2_ := A_ (Kd.R_drew HO329.out)
      have n3_ := A_ (Kd.S_drew HO334.out)
      have n4_ := A_ (Kd.R_drew HO337.out)
      have n5_ := A_ (Kd.R_drew HO341.out)
      have n6_ := A_ (Kd.S_drew HO347.out)
      have n7_ := A_ (blk_drew BK317.out)
      have n8_ := A_ (blk_drew BK343.out)
      have n9_ := A_ (below_drew1 HB.out)
      clear HO322
      clear HO325
      clear HO329
      clear HO334
      clear HO337
      clear HO341
      clear HO347
      clear BK317
      clear BK343
      clear HB
      have HO322 := n0_
      have HO325 := n1_
      have HO329 := n2_
      have HO334 := n3_
      have HO337 := n4_
      have HO341 := n5_
      have HO347 := n6_
      have BK317 := n7_
      have BK343 := n8_
      have HB := n9_
      clear n0_ n1_ n2_ n3_ n4_ n5_ n6_ n7_ n8_ n9_
      refine start_ (n := 5) (S := fun w' => w'.cell? ⟨gb343, 0, none⟩ = some (.slice Ao62 t335.length co62) ∧ w'.cell? ⟨gb343, 1, none⟩ = some (.int .i64 t338) ∧ w'.cell? ⟨gb343, 2, none⟩ = some (.slice Ao65 t339.length co65) ∧ w'.cell? ⟨gb343, 3, none⟩ = some (.int .i64 t342) ∧ w'.cell? ⟨gb317, 0, none⟩ = some (.slice A1_0 l1_0.length c1_0) ∧ w'.cell? ⟨gb317, 1, none⟩ = some (.int .i64 a1_1) ∧ w'.cell? ⟨gb317, 2, none⟩ = some (.slice A1_2 l1_2.length c1_2) ∧ w'.cell? ⟨gb317, 3, none⟩ = some (.int .i64 a1_3)) (ds := []) #[F,F,F,F,F] (by kernel_rfl) rfl rfl ⟨(blk_cell BK343.out 0).trans rfl, (blk_cell BK343.out 1).trans rfl, (blk_cell BK343.out 2).trans rfl, (blk_cell BK343.out 3).trans rfl, (blk_cell BK317.out 0).trans rfl, (blk_cell BK317.out 1).trans rfl, (blk_cell BK317.out 2).trans rfl, (blk_cell BK317.out 3).trans rfl⟩ (fun hHeld => ?_)
      generalize w70.drew = w71 at HO322 HO325 HO329 HO334 HO337 HO341 HO347 BK317 BK343 HB hHeld ⊢
      refine take_ (i := 0) (N := some 40) (v := ?_) (a' := ?_) #[T,F,F,F,F] rfl rfl (by kernel_rfl) ZF (Or.inl ⟨by rfl, ?_⟩) hHeld ?_ ?_
      rotate_left
      ·exact Z40
      rotate_left
      ·exact Z0
      refine take_ (i := 1) (N := some 41) (v := ?_) (a' := ?_) #[T,T,F,F,F] rfl rfl (by kernel_rfl) ZF (Or.inl ⟨by rfl, ?_⟩) hHeld ?_ ?_
      rotate_left
      ·exact Z40
      rotate_left
      ·exact Z0
      refine one_ (i := 2) (N := some 42) #[T,T,T,F,F] rfl rfl (by kernel_rfl) (by decide) (fun K hK => ?_)
      refine goes_ Try.func22 (by kernel_rfl) rfl #[.agg #[.slice A1_0 l1_0.length c1_0, .int .i64 a1_1, .slice A1_2 l1_2.length c1_2, .int .i64 a1_3]] (by rfl) rfl rfl Z5 ?_
      with_reducible refine (laws_toUpdate.calls k _ _ l1_0 a1_1 _ _ l1_2 a1_3 t349 t352 t353 t356 _ ?side1 ?side2 ?side3 ?side4 A44.out).mono ?_
      (case side1 => exact Z4 HR1_0.out)
      (case side2 => exact HC1_0.out)
      (case side3 => exact Z4 HR1_2.out)
      (case side4 => exact HC1_2.out)
      rintro e w72 ⟨v350, v354, rfl, ho0, ho1, hb⟩
      refine ⟨_, rfl, ?_⟩
      have n0_ := A_ (Kd.S_elder' (Z15 HO322.out) (Kd.R_base ho0) hb)
      have n1_ := A_ (Kd.R_elder' (Z12 HO325.out) (Kd.R_base ho0) hb)
      have n2_ := A_ (Kd.R_elder' (Z12 HO329.out) (Kd.R_base ho1) hb)
      have n3_ := A_ (Kd.S_elder' (Z15 HO334.out) (Kd.R_base ho0) hb)
      have n4_ := A_ (Kd.R_elder' (Z12 HO337.out) (Kd.R_base ho0) hb)
      have n5_ := A_ (Kd.R_elder' (Z12 HO341.out) (Kd.R_base ho1) hb)
      have n6_ := A_ (Kd.S_elder' (Z15 HO347.out) (Kd.R_base ho0) hb)
      have n7_ := A_ (Kd.R_lower (Kd.R_new' (Kd.R_new' ho0 (Kd.R_lt (Z12 HO325.out))) (Kd.R_lt (Z12 HO337.out))) (below_size (Z6 GE317.out GE343.out)))
      have n8_ := A_ (Kd.R_lower (Kd.R_new' (Kd.R_new' ho1 (Kd.R_lt (Z12 HO329.out))) (Kd.R_lt (Z12 HO341.out))) (below_size (Z6 GE317.out GE343.out)))
      have n9_ := A_ (blk_below (g := gb317) (o := .cells #[.slice A1_0 l1_0.length c1_0, .int .i64 a1_1, .slice A1_2 l1_2.length c1_2, .int .i64 a1_3] 45 (0, 0)) (Z3 BK317.out) hb)
      have n10_ := A_ (blk_below (g := gb343) (o := .cells #[.slice Ao62 t335.length co62, .int .i64 t338, .slice Ao65 t339.length co65, .int .i64 t342] 53 (0, 0)) (Z3 BK343.out) hb)
      have n11_ := A_ (below_step (Z6 GE317.out GE343.out) hb)
      clear HO322
      clear HO325
      clear HO329
      clear HO334
      clear HO337
      clear HO341
      clear HO347
      clear BK317
      clear BK343
      clear HB
      have HO322 := n0_
      have HO325 := n1_
      have HO329 := n2_
      have HO334 := n3_
      have HO337 := n4_
      have HO341 := n5_
      have HO347 := n6_
      have HO351 := n7_
      have HO355 := n8_
      have BK317 := n9_
      have BK343 := n10_
      have HB := n11_
      clear n0_ n1_ n2_ n3_ n4_ n5_ n6_ n7_ n8_ n9_ n10_ n11_
      (try clear hb)
      (try clear hb2)
      (try clear hk)
      (try clear hi)
      (try clear ho0)
      (try clear ho1)
      obtain ⟨Ao73, co73, eo73⟩ := Kd.R_slice HO351.out
      (first | subst eo73 | (injection eo73 with f1_ f2_ f3_; have f4_ := f1_.symm; have f5_ := f3_.symm; clear f1_ f2_ f3_; subst f4_; subst f5_))
      obtain ⟨Ao74, co74, eo74⟩ := Kd.R_slice HO355.out
      (first | subst eo74 | (injection eo74 with f1_ f2_ f3_; have f4_ := f1_.symm; have f5_ := f3_.symm; clear f1_ f2_ f3_; subst f4_; subst f5_))
      refine hK.out _ _ ⟨(blk_cell BK343.out 0).trans rfl, (blk_cell BK343.out 1).trans rfl, (blk_cell BK343.out 2).trans rfl, (blk_cell BK343.out 3).trans rfl, (blk_cell BK317.out 0).trans rfl, (blk_cell BK317.out 1).trans rfl, (blk_cell BK317.out 2).trans rfl, (blk_cell BK317.out 3).trans rfl⟩ (fun hHeld => ?_)
      clear hK K
      refine norm_ (a' := ?_) ?_ ?_
      rotate_left
      ·show Act.put _ (some 42) _ = _
       simp only [Act.put, List.setIfInBounds_toArray, List.set_cons_zero, List.set_cons_succ, i64_w, i32_w]
       rfl
      refine one_ (i := 3) (N := some 43) #[T,T,T,T,F] rfl rfl (by kernel_rfl) (by decide) (fun K hK => ?_)
      refine goes_ Try.func25 (by kernel_rfl) rfl #[.agg #[.slice Ao62 t335.length co62, .int .i64 t338, .slice Ao65 t339.length co65, .int .i64 t342], .agg #[.slice Ao73 t349.length co73, .int .i64 t352, .slice Ao74 t353.length co74, .int .i64 t356]] (by rfl) rfl rfl Z5 ?_
      with_reducible refine (laws_eqUpdate.calls k _ _ t335 t338 _ _ t339 t342 _ _ t349 t352 _ _ t353 t356 true _ ?side1 ?side2 ?side3 ?side4 ?side5 ?side6 ?side7 ?side8 A45.out).mono ?_
      (case side1 => exact Z19 HO337.out)
      (case side2 => exact (Kd.R_reads' HO337.out).2.1)
      (case side3 => exact Z19 HO341.out)
      (case side4 => exact (Kd.R_reads' HO341.out).2.1)
      (case side5 => exact Z19 HO351.out)
      (case side6 => exact (Kd.R_reads' HO351.out).2.1)
      (case side7 => exact Z19 HO355.out)
      (case side8 => exact (Kd.R_reads' HO355.out).2.1)
      rintro e w75 ⟨rfl, hb⟩
      refine ⟨_, rfl, ?_⟩
      have n0_ := A_ (Kd.S_below (Z15 HO322.out) hb)
      have n1_ := A_ (Kd.R_below (Z12 HO325.out) hb)
      have n2_ := A_ (Kd.R_below (Z12 HO329.out) hb)
      have n3_ := A_ (Kd.S_below (Z15 HO334.out) hb)
      have n4_ := A_ (Kd.R_below (Z12 HO337.out) hb)
      have n5_ := A_ (Kd.R_below (Z12 HO341.out) hb)
      have n6_ := A_ (Kd.S_below (Z15 HO347.out) hb)
      have n7_ := A_ (Kd.R_below (Z12 HO351.out) hb)
      have n8_ := A_ (Kd.R_below (Z12 HO355.out) hb)
      have n9_ := A_ (blk_below (g := gb317) (o := .cells #[.slice A1_0 l1_0.length c1_0, .int .i64 a1_1, .slice A1_2 l1_2.length c1_2, .int .i64 a1_3] 45 (0, 0)) (Z3 BK317.out) hb)
      have n10_ := A_ (blk_below (g := gb343) (o := .cells #[.slice Ao62 t335.length co62, .int .i64 t338, .slice Ao65 t339.length co65, .int .i64 t342] 53 (0, 0)) (Z3 BK343.out) hb)
      have n11_ := A_ (below_step (Z6 GE317.out GE343.out) hb)
      clear HO322
      clear HO325
      clear HO329
      clear HO334
      clear HO337
      clear HO341
      clear HO347
      clear HO351
      clear HO355
      clear BK317
      clear BK343
      clear HB
      have HO322 := n0_
      have HO325 := n1_
      have HO329 := n2_
      have HO334 := n3_
      have HO337 := n4_
      have HO341 := n5_
      have HO347 := n6_
      have HO351 := n7_
      have HO355 := n8_
      have BK317 := n9_
      have BK343 := n10_
      have HB := n11_
      clear n0_ n1_ n2_ n3_ n4_ n5_ n6_ n7_ n8_ n9_ n10_ n11_
      (try clear hb)
      (try clear hb2)
      (try clear hk)
      (try clear hi)
      refine hK.out _ _ ⟨(blk_cell BK343.out 0).trans rfl, (blk_cell BK343.out 1).trans rfl, (blk_cell BK343.out 2).trans rfl, (blk_cell BK343.out 3).trans rfl, (blk_cell BK317.out 0).trans rfl, (blk_cell BK317.out 1).trans rfl, (blk_cell BK317.out 2).trans rfl, (blk_cell BK317.out 3).trans rfl⟩ (fun hHeld => ?_)
      clear hK K
      refine norm_ (a' := ?_) ?_ ?_
      rotate_left
      ·show Act.put _ (some 43) _ = _
       simp only [Act.put, List.setIfInBounds_toArray, List.set_cons_zero, List.set_cons_succ, i64_w, i32_w]
       rfl
      refine pure_ (i := 4) (N := some 44) (v := ?_) (a' := ?_) #[T,T,T,T,T] rfl rfl (by kernel_rfl) ZF (Or.inl ⟨by rfl, ?_⟩) ?_ ?_
      rotate_left
      ·exact Z13
      rotate_left
      ·exact Z0
      refine done_ (by kernel_rfl) ?_
      try go_wp2
      go_ret
      exact ⟨Z7, Z6 GE317.out GE343.out⟩
     ·replace c46 := Bool.eq_false_iff.mpr c46
      subst c46
      have H1 : (some false) = some r := by rw [if_neg (show ¬ (false = true) by decide)] at H; exact H
      clear H
      have H := H1
      clear H1
      obtain rfl := Option.some.inj H
      go_enter Try.func5, Try.ntmps5
      try go_wp2_with (first | ((with_reducible refine gate_dst (N := 3) rfl ?_); refine box_event ?hg (N := 3) ?hd (cs := #[.slice A1_0 l1_0.length c1_0, .int .i64 a1_1, .slice A1_2 l1_2.length c1_2, .int .i64 a1_3]) (t := 45) ?hr ?_; (case hd => rfl); (case hg => rfl); (case hr => exact Z16); intro gb317 hg w76 hbox hb; have n0_ := A_ (below_step Z1 hb); have n1_ := A_ (hbox); have n2_ := A_ ((by rw [hg]; exact (below_size Z1) : w.heap.size ≤ gb317)); have n3_ := A_ ((by rw [hg]; exact (below_size Z1) : w.heap.size ≤ gb317)); clear HB; have HB := n0_; have BK317 := n1_; have GW317 := n2_; have GE317 := n3_; clear n0_ n1_ n2_ n3_; clear hb hbox hg) | ((with_reducible refine gate_callee (f := 18) rfl ?_); refine goesL_ (some 12) rfl rfl Try.func18 (by kernel_rfl) rfl #[.slice A0 l0.length c0, .int .i64 1048576] rfl Z5 ?_; (with_reducible refine (laws_szCellS.calls k _ _ l0 1048576 t318 _ ?side1 ?side2 A3.out).mono ?_); (case side1 => exact Z4 HR0.out); (case side2 => exact HC0.out); rintro e w77 ⟨rfl, hb⟩; refine ⟨_, rfl, ?_⟩; have n0_ := A_ (blk_below (g := gb317) (o := .cells #[.slice A1_0 l1_0.length c1_0, .int .i64 a1_1, .slice A1_2 l1_2.length c1_2, .int .i64 a1_3] 45 (0, 0)) (Z3 BK317.out) hb); have n1_ := A_ (below_step (Z2 GE317.out) hb); clear BK317; clear HB; have BK317 := n0_; have HB := n1_; clear n0_ n1_; (try clear hb); (try clear hb2); (try clear hk); (try clear hi); have hcz78_0 : w77.cell? ⟨gb317, 0, none⟩ = some (.slice A1_0 l1_0.length c1_0) := (blk_cell BK317.out 0).trans rfl; have hcz78_1 : w77.cell? ⟨gb317, 1, none⟩ = some (.int .i64 a1_1) := (blk_cell BK317.out 1).trans rfl; have hcz78_2 : w77.cell? ⟨gb317, 2, none⟩ = some (.slice A1_2 l1_2.length c1_2) := (blk_cell BK317.out 2).trans rfl; have hcz78_3 : w77.cell? ⟨gb317, 3, none⟩ = some (.int .i64 a1_3) := (blk_cell BK317.out 3).trans rfl; have hfz78_0 := blk_frozen BK317.out 0; have hfz78_1 := blk_frozen BK317.out 1; have hfz78_2 := blk_frozen BK317.out 2; have hfz78_3 := blk_frozen BK317.out 3) | ((with_reducible refine gate_callee (f := 19) rfl ?_); refine goesL_ (some 17) rfl rfl Try.func19 (by kernel_rfl) rfl #[.agg #[.slice A1_0 l1_0.length c1_0, .int .i64 a1_1, .slice A1_2 l1_2.length c1_2, .int .i64 a1_3], .int .i64 t318] rfl Z5 ?_; (with_reducible refine (laws_szUpdate.calls k _ _ l1_0 a1_1 _ _ l1_2 a1_3 t318 t319 _ ?side1 ?side2 ?side3 ?side4 A7.out).mono ?_); (case side1 => exact Z4 HR1_0.out); (case side2 => exact HC1_0.out); (case side3 => exact Z4 HR1_2.out); (case side4 => exact HC1_2.out); rintro e w79 ⟨rfl, hb⟩; refine ⟨_, rfl, ?_⟩; have n0_ := A_ (blk_below (g := gb317) (o := .cells #[.slice A1_0 l1_0.length c1_0, .int .i64 a1_1, .slice A1_2 l1_2.length c1_2, .int .i64 a1_3] 45 (0, 0)) (Z3 BK317.out) hb); have n1_ := A_ (below_step (Z2 GE317.out) hb); clear BK317; clear HB; have BK317 := n0_; have HB := n1_; clear n0_ n1_; (try clear hb); (try clear hb2); (try clear hk); (try clear hi)))
      have n0_ := A_ (blk_drew BK317.out)
      have n1_ := A_ (below_drew1 HB.out)
      clear BK317
      clear HB
      have BK317 := n0_
      have HB := n1_
      clear n0_ n1_
      refine start_ (n := 6) (S := fun w' => w'.cell? ⟨gb317, 0, none⟩ = some (.slice A1_0 l1_0.length c1_0) ∧ w'.cell? ⟨gb317, 1, none⟩ = some (.int .i64 a1_1) ∧ w'.cell? ⟨gb317, 2, none⟩ = some (.slice A1_2 l1_2.length c1_2) ∧ w'.cell? ⟨gb317, 3, none⟩ = some (.int .i64 a1_3)) (ds := []) #[F,F,F,F,F,F] (by kernel_rfl) rfl rfl ⟨(blk_cell BK317.out 0).trans rfl, (blk_cell BK317.out 1).trans rfl, (blk_cell BK317.out 2).trans rfl, (blk_cell BK317.out 3).trans rfl⟩ (fun hHeld => ?_)
      generalize w79.drew = w80 at BK317 HB hHeld ⊢
      refine pure_ (i := 0) (N := some 20) (v := ?_) (a' := ?_) #[T,F,F,F,F,F] rfl rfl (by kernel_rfl) ZF (Or.inl ⟨by rfl, ?_⟩) ?_ ?_
      rotate_left
      ·exact Z13
      rotate_left
      ·exact Z0
      refine take_ (i := 2) (N := some 22) (v := ?_) (a' := ?_) #[T,F,T,F,F,F] rfl rfl (by kernel_rfl) ZF (Or.inl ⟨by rfl, ?_⟩) hHeld ?_ ?_
      rotate_left
      ·exact Z28
      rotate_left
      ·exact Z0
      refine one_ (i := 1) (N := some 21) #[T,T,T,F,F,F] rfl rfl (by kernel_rfl) (by decide) (fun K hK => ?_)
      refine goes_ Try.func21 (by kernel_rfl) rfl #[.slice A0 l0.length c0] (by rfl) rfl rfl Z5 ?_
      with_reducible refine (laws_toCellS.calls k _ _ l0 t320 _ ?side1 ?side2 A13.out).mono ?_
      (case side1 => exact Z4 HR0.out)
      (case side2 => exact HC0.out)
      rintro e w81 ⟨v321, rfl, ho0, hb⟩
      refine ⟨_, rfl, ?_⟩
      have n0_ := A_ (Kd.S_lower ho0 (below_size (Z2 GE317.out)))
      have n1_ := A_ (blk_below (g := gb317) (o := .cells #[.slice A1_0 l1_0.length c1_0, .int .i64 a1_1, .slice A1_2 l1_2.length c1_2, .int .i64 a1_3] 45 (0, 0)) (Z3 BK317.out) hb)
      have n2_ := A_ (below_step (Z2 GE317.out) hb)
      clear BK317
      clear HB
      have HO322 := n0_
      have BK317 := n1_
      have HB := n2_
      clear n0_ n1_ n2_
      (try clear hb)
      (try clear hb2)
      (try clear hk)
      (try clear hi)
      (try clear ho0)
      refine hK.out _ _ ⟨(blk_cell BK317.out 0).trans rfl, (blk_cell BK317.out 1).trans rfl, (blk_cell BK317.out 2).trans rfl, (blk_cell BK317.out 3).trans rfl⟩ (fun hHeld => ?_)
      clear hK K
      refine norm_ (a' := ?_) ?_ ?_
      rotate_left
      ·exact Z46
      refine one_ (i := 3) (N := some 23) #[T,T,T,T,F,F] rfl rfl (by kernel_rfl) (by decide) (fun K hK => ?_)
      refine goes_ Try.func22 (by kernel_rfl) rfl #[.agg #[.slice A1_0 l1_0.length c1_0, .int .i64 a1_1, .slice A1_2 l1_2.length c1_2, .int .i64 a1_3]] (by rfl) rfl rfl Z5 ?_
      with_reducible refine (laws_toUpdate.calls k _ _ l1_0 a1_1 _ _ l1_2 a1_3 t323 t326 t327 t330 _ ?side1 ?side2 ?side3 ?side4 A14.out).mono ?_
      (case side1 => exact Z4 HR1_0.out)
      (case side2 => exact HC1_0.out)
      (case side3 => exact Z4 HR1_2.out)
      (case side4 => exact HC1_2.out)
      rintro e w82 ⟨v324, v328, rfl, ho0, ho1, hb⟩
      refine ⟨_, rfl, ?_⟩
      have n0_ := A_ (Kd.S_elder' (Z15 HO322.out) (Kd.R_base ho0) hb)
      have n1_ := A_ (Kd.R_lower ho0 (below_size (Z2 GE317.out)))
      have n2_ := A_ (Kd.R_lower ho1 (below_size (Z2 GE317.out)))
      have n3_ := A_ (blk_below (g := gb317) (o := .cells #[.slice A1_0 l1_0.length c1_0, .int .i64 a1_1, .slice A1_2 l1_2.length c1_2, .int .i64 a1_3] 45 (0, 0)) (Z3 BK317.out) hb)
      have n4_ := A_ (below_step (Z2 GE317.out) hb)
      clear HO322
      clear BK317
      clear HB
      have HO322 := n0_
      have HO325 := n1_
      have HO329 := n2_
      have BK317 := n3_
      have HB := n4_
      clear n0_ n1_ n2_ n3_ n4_
      (try clear hb)
      (try clear hb2)
      (try clear hk)
      (try clear hi)
      (try clear ho0)
      (try clear ho1)
      obtain ⟨Ao83, co83, eo83⟩ := Kd.S_slice HO322.out
      (first | subst eo83 | (injection eo83 with f1_ f2_ f3_; have f4_ := f1_.symm; have f5_ := f3_.symm; clear f1_ f2_ f3_; subst f4_; subst f5_))
      obtain ⟨Ao84, co84, eo84⟩ := Kd.R_slice HO325.out
      (first | subst eo84 | (injection eo84 with f1_ f2_ f3_; have f4_ := f1_.symm; have f5_ := f3_.symm; clear f1_ f2_ f3_; subst f4_; subst f5_))
      obtain ⟨Ao85, co85, eo85⟩ := Kd.R_slice HO329.out
      (first | subst eo85 | (injection eo85 with f1_ f2_ f3_; have f4_ := f1_.symm; have f5_ := f3_.symm; clear f1_ f2_ f3_; subst f4_; subst f5_))
      refine hK.out _ _ ⟨(blk_cell BK317.out 0).trans rfl, (blk_cell BK317.out 1).trans rfl, (blk_cell BK317.out 2).trans rfl, (blk_cell BK317.out 3).trans rfl⟩ (fun hHeld => ?_)
      clear hK K
      refine norm_ (a' := ?_) ?_ ?_
      rotate_left
      ·exact Z45
      refine one_ (i := 4) (N := some 24) #[T,T,T,T,T,F] rfl rfl (by kernel_rfl) (by decide) (fun K hK => ?_)
      refine goes_ Try.func20 (by kernel_rfl) rfl #[.slice Ao83 t320.length co83, .agg #[.slice Ao84 t323.length co84, .int .i64 t326, .slice Ao85 t327.length co85, .int .i64 t330]] (by rfl) rfl rfl Z5 ?_
      with_reducible refine (spec_UpdateHas.calls k _ _ t320 _ _ t323 t326 _ _ t327 t330 t331 _ ?side1 ?side2 ?side3 ?side4 ?side5 ?side6 A15.out).mono ?_
      (case side1 => exact Z26 HO322.out)
      (case side2 => exact (Kd.S_reads' HO322.out).2.1)
      (case side3 => exact Z19 HO325.out)
      (case side4 => exact (Kd.R_reads' HO325.out).2.1)
      (case side5 => exact Z19 HO329.out)
      (case side6 => exact (Kd.R_reads' HO329.out).2.1)
      rintro e w86 ⟨rfl, hb⟩
      refine ⟨_, rfl, ?_⟩
      have n0_ := A_ (Kd.S_below (Z15 HO322.out) hb)
      have n1_ := A_ (Kd.R_below (Z12 HO325.out) hb)
      have n2_ := A_ (Kd.R_below (Z12 HO329.out) hb)
      have n3_ := A_ (blk_below (g := gb317) (o := .cells #[.slice A1_0 l1_0.length c1_0, .int .i64 a1_1, .slice A1_2 l1_2.length c1_2, .int .i64 a1_3] 45 (0, 0)) (Z3 BK317.out) hb)
      have n4_ := A_ (below_step (Z2 GE317.out) hb)
      clear HO322
      clear HO325
      clear HO329
      clear BK317
      clear HB
      have HO322 := n0_
      have HO325 := n1_
      have HO329 := n2_
      have BK317 := n3_
      have HB := n4_
      clear n0_ n1_ n2_ n3_ n4_
      (try clear hb)
      (try clear hb2)
      (try clear hk)
      (try clear hi)
      refine hK.out _ _ ⟨(blk_cell BK317.out 0).trans rfl, (blk_cell BK317.out 1).trans rfl, (blk_cell BK317.out 2).trans rfl, (blk_cell BK317.out 3).trans rfl⟩ (fun hHeld => ?_)
      clear hK K
      refine norm_ (a' := ?_) ?_ ?_
      rotate_left
      ·exact Z44
      refine pure_ (i := 5) (N := some 6) (v := ?_) (a' := ?_) #[T,T,T,T,T,T] rfl rfl (by kernel_rfl) ZF (Or.inl ⟨by rfl, ?_⟩) ?_ ?_
      rotate_left
      ·exact Z13
      rotate_left
      ·exact Z0
      refine done_ (by kernel_rfl) ?_
      try go_wp2_with (first | ((with_reducible refine gate_callee (f := 21) rfl ?_); refine goesL_ (some 26) rfl rfl Try.func21 (by kernel_rfl) rfl #[.slice A0 l0.length c0] rfl Z5 ?_; (with_reducible refine (laws_toCellS.calls k _ _ l0 t332 _ ?side1 ?side2 A16.out).mono ?_); (case side1 => exact Z4 HR0.out); (case side2 => exact HC0.out); rintro e w87 ⟨v333, rfl, ho0, hb⟩; refine ⟨_, rfl, ?_⟩; have n0_ := A_ (Kd.S_elder' (Z15 HO322.out) (Kd.S_base ho0) hb); have n1_ := A_ (Kd.R_below (Z12 HO325.out) hb); have n2_ := A_ (Kd.R_below (Z12 HO329.out) hb); have n3_ := A_ (Kd.S_lower (Kd.S_new' (Kd.S_new' ho0 (Kd.S_lt (Z15 HO322.out))) (Kd.R_lt (Z12 HO325.out))) (below_size (Z2 GE317.out))); have n4_ := A_ (blk_below (g := gb317) (o := .cells #[.slice A1_0 l1_0.length c1_0, .int .i64 a1_1, .slice A1_2 l1_2.length c1_2, .int .i64 a1_3] 45 (0, 0)) (Z3 BK317.out) hb); have n5_ := A_ (below_step (Z2 GE317.out) hb); clear HO322; clear HO325; clear HO329; clear BK317; clear HB; have HO322 := n0_; have HO325 := n1_; have HO329 := n2_; have HO334 := n3_; have BK317 := n4_; have HB := n5_; clear n0_ n1_ n2_ n3_ n4_ n5_; (try clear hb); (try clear hb2); (try clear hk); (try clear hi); (try clear ho0); have hcz88_0 : w87.cell? ⟨gb317, 0, none⟩ = some (.slice A1_0 l1_0.length c1_0) := (blk_cell BK317.out 0).trans rfl; have hcz88_1 : w87.cell? ⟨gb317, 1, none⟩ = some (.int .i64 a1_1) := (blk_cell BK317.out 1).trans rfl; have hcz88_2 : w87.cell? ⟨gb317, 2, none⟩ = some (.slice A1_2 l1_2.length c1_2) := (blk_cell BK317.out 2).trans rfl; have hcz88_3 : w87.cell? ⟨gb317, 3, none⟩ = some (.int .i64 a1_3) := (blk_cell BK317.out 3).trans rfl; have hfz88_0 := blk_frozen BK317.out 0; have hfz88_1 := blk_frozen BK317.out 1; have hfz88_2 := blk_frozen BK317.out 2; have hfz88_3 := blk_frozen BK317.out 3) | ((with_reducible refine gate_callee (f := 22) rfl ?_); refine goesL_ (some 28) rfl rfl Try.func22 (by kernel_rfl) rfl #[.agg #[.slice A1_0 l1_0.length c1_0, .int .i64 a1_1, .slice A1_2 l1_2.length c1_2, .int .i64 a1_3]] rfl Z5 ?_; (with_reducible refine (laws_toUpdate.calls k _ _ l1_0 a1_1 _ _ l1_2 a1_3 t335 t338 t339 t342 _ ?side1 ?side2 ?side3 ?side4 A17.out).mono ?_); (case side1 => exact Z4 HR1_0.out); (case side2 => exact HC1_0.out); (case side3 => exact Z4 HR1_2.out); (case side4 => exact HC1_2.out); rintro e w89 ⟨v336, v340, rfl, ho0, ho1, hb⟩; refine ⟨_, rfl, ?_⟩; have n0_ := A_ (Kd.S_elder' (Z15 HO322.out) (Kd.R_base ho0) hb); have n1_ := A_ (Kd.R_elder' (Z12 HO325.out) (Kd.R_base ho0) hb); have n2_ := A_ (Kd.R_elder' (Z12 HO329.out) (Kd.R_base ho1) hb); have n3_ := A_ (Kd.S_elder' (Z15 HO334.out) (Kd.R_base ho0) hb); have n4_ := A_ (Kd.R_lower (Kd.R_new' ho0 (Kd.R_lt (Z12 HO325.out))) (below_size (Z2 GE317.out))); have n5_ := A_ (Kd.R_lower (Kd.R_new' ho1 (Kd.R_lt (Z12 HO329.out))) (below_size (Z2 GE317.out))); have n6_ := A_ (blk_below (g := gb317) (o := .cells #[.slice A1_0 l1_0.length c1_0, .int .i64 a1_1, .slice A1_2 l1_2.length c1_2, .int .i64 a1_3] 45 (0, 0)) (Z3 BK317.out) hb); have n7_ := A_ (below_step (Z2 GE317.out) hb); clear HO322; clear HO325; clear HO329; clear HO334; clear BK317; clear HB; have HO322 := n0_; have HO325 := n1_; have HO329 := n2_; have HO334 := n3_; have HO337 := n4_; have HO341 := n5_; have BK317 := n6_; have HB := n7_; clear n0_ n1_ n2_ n3_ n4_ n5_ n6_ n7_; (try clear hb); (try clear hb2); (try clear hk); (try clear hi); (try clear ho0); (try clear ho1)) | ((with_reducible refine gate_dst (N := 8) rfl ?_); refine box_event ?hg (N := 8) ?hd (cs := #[.slice none 0 0, .int .i64 0, .slice none 0 0, .int .i64 0]) (t := 53) ?hr ?_; (case hd => rfl); (case hg => rfl); (case hr => exact Z16); intro gb343 hg w90 hbox hb; have n0_ := A_ (Kd.S_below (Z15 HO322.out) hb); have n1_ := A_ (Kd.R_below (Z12 HO325.out) hb); have n2_ := A_ (Kd.R_below (Z12 HO329.out) hb); have n3_ := A_ (Kd.S_below (Z15 HO334.out) hb); have n4_ := A_ (Kd.R_below (Z12 HO337.out) hb); have n5_ := A_ (Kd.R_below (Z12 HO341.out) hb); have n6_ := A_ (blk_below (g := gb317) (o := .cells #[.slice A1_0 l1_0.length c1_0, .int .i64 a1_1, .slice A1_2 l1_2.length c1_2, .int .i64 a1_3] 45 (0, 0)) (Z3 BK317.out) hb); have n7_ := A_ (below_step (Z2 GE317.out) hb); have n8_ := A_ (hbox); have n9_ := A_ ((by rw [hg]; exact (below_size (Z2 GE317.out)) : w.heap.size ≤ gb343)); have n10_ := A_ ((by rw [hg]; exact (below_size (Z2 GE317.out)) : w.heap.size ≤ gb343)); have n11_ := A_ ((by rw [hg]; exact Nat.ne_of_lt (blk_lt (g := gb317) (o := .cells #[.slice A1_0 l1_0.length c1_0, .int .i64 a1_1, .slice A1_2 l1_2.length c1_2, .int .i64 a1_3] 45 (0, 0)) (Z3 BK317.out)) : gb317 ≠ gb343)); have n12_ := A_ ((by rw [hg]; exact Nat.ne_of_gt (blk_lt (g := gb317) (o := .cells #[.slice A1_0 l1_0.length c1_0, .int .i64 a1_1, .slice A1_2 l1_2.length c1_2, .int .i64 a1_3] 45 (0, 0)) (Z3 BK317.out)) : gb343 ≠ gb317)); clear HO322; clear HO325; clear HO329; clear HO334; clear HO337; clear HO341; clear BK317; clear HB; have HO322 := n0_; have HO325 := n1_; have HO329 := n2_; have HO334 := n3_; have HO337 := n4_; have HO341 := n5_; have BK317 := n6_; have HB := n7_; have BK343 := n8_; have GW343 := n9_; have GE343 := n10_; have NB317_343 := n11_; have NB343_317 := n12_; clear n0_ n1_ n2_ n3_ n4_ n5_ n6_ n7_ n8_ n9_ n10_ n11_ n12_; clear hb hbox hg; obtain ⟨Ao91, co91, eo91⟩ := Kd.R_slice HO337.out; subst eo91; have hnb92 := NB343_317.out; have hnc92 := NB317_343.out; have hcz93_0 : w90.cell? ⟨gb343, 0, none⟩ = some (.slice none 0 0) := (blk_cell BK343.out 0).trans rfl; have hcz93_1 : w90.cell? ⟨gb343, 1, none⟩ = some (.int .i64 0) := (blk_cell BK343.out 1).trans rfl; have hcz93_2 : w90.cell? ⟨gb343, 2, none⟩ = some (.slice none 0 0) := (blk_cell BK343.out 2).trans rfl; have hcz93_3 : w90.cell? ⟨gb343, 3, none⟩ = some (.int .i64 0) := (blk_cell BK343.out 3).trans rfl; have hfz93_0 := blk_frozen BK343.out 0; have hfz93_1 := blk_frozen BK343.out 1; have hfz93_2 := blk_frozen BK343.out 2; have hfz93_3 := blk_frozen BK343.out 3; obtain ⟨Ao94, co94, eo94⟩ := Kd.R_slice HO341.out; subst eo94; obtain ⟨Ao95, co95, eo95⟩ := Kd.S_slice HO334.out; subst eo95) | ((with_reducible refine gate_callee (f := 23) rfl ?_); refine goesL_ (some 31) rfl rfl Try.func23 (by kernel_rfl) rfl #[.slice Ao95 t332.length co95, .agg #[.slice Ao91 t335.length co91, .int .i64 t338, .slice Ao94 t339.length co94, .int .i64 t342]] rfl Z5 ?_; (with_reducible refine (impl_UpdateHas.calls k _ _ t332 _ _ t335 t338 _ _ t339 t342 t344 _ ?side1 ?side2 ?side3 ?side4 ?side5 ?side6 A18.out).mono ?_); (case side1 => refine (Kd.S_reads' (e := 95) (base := w.heap.size) (ok := fun k_ => (((True ∧ some k_ ≠ (.slice Ao83 t320.length co83 : Value).ownBlock) ∧ some k_ ≠ (.slice Ao84 t323.length co84 : Value).ownBlock) ∧ some k_ ≠ (.slice Ao91 t335.length co91 : Value).ownBlock)) (n := t332.length) (c := co95) ?_).2.2; exact (by (with_reducible repeat (first | apply Kd.S_alloc | apply Kd.S_drewN | apply Kd.S_drew)); exact (Kd.S_mono (Kd.S_far (p := ⟨gb343, 3, none⟩) (Kd.S_far (p := ⟨gb343, 2, none⟩) (Kd.S_far (p := ⟨gb343, 1, none⟩) (Kd.S_far (p := ⟨gb343, 0, none⟩) (Kd.S_types HO334.out BK343.out (by decide)) (fun _ hk => hk.2) (.slice Ao91 t335.length co91)) (fun _ hk => hk.2) (.int .i64 t338)) (fun _ hk => hk.2) (.slice Ao94 t339.length co94)) (fun _ hk => hk.2) (.int .i64 t342)) (fun _ h_ => h_.1)))); (case side2 => exact (Kd.S_reads' HO334.out).2.1); (case side3 => refine (Kd.R_reads' (e := 121) (base := w.heap.size) (ok := fun k_ => (True ∧ some k_ ≠ (.slice Ao84 t323.length co84 : Value).ownBlock)) (n := t335.length) (c := co91) ?_).2.2; exact (Z21 HO337.out BK343.out)); (case side4 => exact (Kd.R_reads' HO337.out).2.1); (case side5 => refine (Kd.R_reads' (e := 126) (base := w.heap.size) (ok := fun k_ => (True ∧ some k_ ≠ (.slice Ao85 t327.length co85 : Value).ownBlock)) (n := t339.length) (c := co94) ?_).2.2; exact (Z21 HO341.out BK343.out)); (case side6 => exact (Kd.R_reads' HO341.out).2.1); rintro e w96 ⟨rfl, hb⟩; refine ⟨_, rfl, ?_⟩; have n0_ := A_ (Kd.S_below (by (with_reducible repeat (first | apply Kd.S_alloc | apply Kd.S_drewN | apply Kd.S_drew)); exact (Kd.S_mono (Kd.S_far (p := ⟨gb343, 3, none⟩) (Kd.S_far (p := ⟨gb343, 2, none⟩) (Kd.S_far (p := ⟨gb343, 1, none⟩) (Kd.S_far (p := ⟨gb343, 0, none⟩) (Kd.S_types HO322.out BK343.out (by decide)) (fun _ hk => hk.2) (.slice Ao91 t335.length co91)) (fun _ hk => hk.2) (.int .i64 t338)) (fun _ hk => hk.2) (.slice Ao94 t339.length co94)) (fun _ hk => hk.2) (.int .i64 t342)) (fun _ h_ => h_.1))) hb); have n1_ := A_ (Kd.R_below (Z21 HO325.out BK343.out) hb); have n2_ := A_ (Kd.R_below (Z21 HO329.out BK343.out) hb); have n3_ := A_ (Kd.S_below (by (with_reducible repeat (first | apply Kd.S_alloc | apply Kd.S_drewN | apply Kd.S_drew)); exact (Kd.S_mono (Kd.S_far (p := ⟨gb343, 3, none⟩) (Kd.S_far (p := ⟨gb343, 2, none⟩) (Kd.S_far (p := ⟨gb343, 1, none⟩) (Kd.S_far (p := ⟨gb343, 0, none⟩) (Kd.S_types HO334.out BK343.out (by decide)) (fun _ hk => hk.2) (.slice Ao91 t335.length co91)) (fun _ hk => hk.2) (.int .i64 t338)) (fun _ hk => hk.2) (.slice Ao94 t339.length co94)) (fun _ hk => hk.2) (.int .i64 t342)) (fun _ h_ => h_.1))) hb); have n4_ := A_ (Kd.R_below (Z21 HO337.out BK343.out) hb); have n5_ := A_ (Kd.R_below (Z21 HO341.out BK343.out) hb); have n6_ := A_ (blk_below (g := gb317) (o := .cells #[.slice A1_0 l1_0.length c1_0, .int .i64 a1_1, .slice A1_2 l1_2.length c1_2, .int .i64 a1_3] 45 (0, 0)) (Z25 NB317_343.out BK317.out) hb); have n7_ := A_ (blk_below (g := gb343) (o := .cells #[.slice Ao91 t335.length co91, .int .i64 t338, .slice Ao94 t339.length co94, .int .i64 t342] 53 (0, 0)) (by (with_reducible repeat (first | refine blk_drewN ?_ _ | refine blk_drew ?_ | refine blk_alloc ?_ _)); refine blk_put (cs := #[.slice Ao91 t335.length co91, .int .i64 t338, .slice Ao94 t339.length co94, .int .i64 0]) ?_ 3 _ rfl; (with_reducible repeat (first | refine blk_drewN ?_ _ | refine blk_drew ?_ | refine blk_alloc ?_ _)); refine blk_put (cs := #[.slice Ao91 t335.length co91, .int .i64 t338, .slice none 0 0, .int .i64 0]) ?_ 2 _ rfl; (with_reducible repeat (first | refine blk_drewN ?_ _ | refine blk_drew ?_ | refine blk_alloc ?_ _)); refine blk_put (cs := #[.slice Ao91 t335.length co91, .int .i64 0, .slice none 0 0, .int .i64 0]) ?_ 1 _ rfl; (with_reducible repeat (first | refine blk_drewN ?_ _ | refine blk_drew ?_ | refine blk_alloc ?_ _)); refine blk_put (cs := #[.slice none 0 0, .int .i64 0, .slice none 0 0, .int .i64 0]) ?_ 0 _ rfl; (with_reducible repeat (first | refine blk_drewN ?_ _ | refine blk_drew ?_ | refine blk_alloc ?_ _)); exact BK343.out) hb); have n8_ := A_ (below_step (Z6 GE317.out GE343.out) hb); clear HO322; clear HO325; clear HO329; clear HO334; clear HO337; clear HO341; clear BK317; clear BK343; clear HB; have HO322 := n0_; have HO325 := n1_; have HO329 := n2_; have HO334 := n3_; have HO337 := n4_; have HO341 := n5_; have BK317 := n6_; have BK343 := n7_; have HB := n8_; clear n0_ n1_ n2_ n3_ n4_ n5_ n6_ n7_ n8_; (try clear hb); (try clear hb2); (try clear hk); (try clear hi)) | ((with_reducible refine gate_callee (f := 21) rfl ?_); refine goesL_ (some 37) rfl rfl Try.func21 (by kernel_rfl) rfl #[.slice A0 l0.length c0] rfl Z5 ?_; (with_reducible refine (laws_toCellS.calls k _ _ l0 t345 _ ?side1 ?side2 A41.out).mono ?_); (case side1 => exact Z4 HR0.out); (case side2 => exact HC0.out); rintro e w97 ⟨v346, rfl, ho0, hb⟩; refine ⟨_, rfl, ?_⟩; have n0_ := A_ (Kd.S_elder' (Z15 HO322.out) (Kd.S_base ho0) hb); have n1_ := A_ (Kd.R_below (Z12 HO325.out) hb); have n2_ := A_ (Kd.R_below (Z12 HO329.out) hb); have n3_ := A_ (Kd.S_elder' (Z15 HO334.out) (Kd.S_base ho0) hb); have n4_ := A_ (Kd.R_below (Z12 HO337.out) hb); have n5_ := A_ (Kd.R_below (Z12 HO341.out) hb); have n6_ := A_ (Kd.S_lower (Kd.S_new' (Kd.S_new' (Kd.S_new' (Kd.S_new' ho0 (Kd.S_lt (Z15 HO322.out))) (Kd.R_lt (Z12 HO325.out))) (Kd.S_lt (Z15 HO334.out))) (Kd.R_lt (Z12 HO337.out))) (below_size (Z6 GE317.out GE343.out))); have n7_ := A_ (blk_below (g := gb317) (o := .cells #[.slice A1_0 l1_0.length c1_0, .int .i64 a1_1, .slice A1_2 l1_2.length c1_2, .int .i64 a1_3] 45 (0, 0)) (Z3 BK317.out) hb); have n8_ := A_ (blk_below (g := gb343) (o := .cells #[.slice Ao91 t335.length co91, .int .i64 t338, .slice Ao94 t339.length co94, .int .i64 t342] 53 (0, 0)) (Z3 BK343.out) hb); have n9_ := A_ (below_step (Z6 GE317.out GE343.out) hb); clear HO322; clear HO325; clear HO329; clear HO334; clear HO337; clear HO341; clear BK317; clear BK343; clear HB; have HO322 := n0_; have HO325 := n1_; have HO329 := n2_; have HO334 := n3_; have HO337 := n4_; have HO341 := n5_; have HO347 := n6_; have BK317 := n7_; have BK343 := n8_; have HB := n9_; clear n0_ n1_ n2_ n3_ n4_ n5_ n6_ n7_ n8_ n9_; (try clear hb); (try clear hb2); (try clear hk); (try clear hi); (try clear ho0); obtain ⟨Ao98, co98, eo98⟩ := Kd.S_slice HO347.out; subst eo98) | ((with_reducible refine gate_callee (f := 24) rfl ?_); refine goesL_ (some 38) rfl rfl Try.func24 (by kernel_rfl) rfl #[.slice Ao95 t332.length co95, .slice Ao98 t345.length co98] rfl Z5 ?_; (with_reducible refine (laws_eqCellS.calls k _ _ t332 _ _ t345 true _ ?side1 ?side2 ?side3 ?side4 A42.out).mono ?_); (case side1 => exact Z26 HO334.out); (case side2 => exact (Kd.S_reads' HO334.out).2.1); (case side3 => exact Z26 HO347.out); (case side4 => exact (Kd.S_reads' HO347.out).2.1); rintro e w99 ⟨rfl, hb⟩; refine ⟨_, rfl, ?_⟩; have n0_ := A_ (Kd.S_below (Z15 HO322.out) hb); have n1_ := A_ (Kd.R_below (Z12 HO325.out) hb); have n2_ := A_ (Kd.R_below (Z12 HO329.out) hb); have n3_ := A_ (Kd.S_below (Z15 HO334.out) hb); have n4_ := A_ (Kd.R_below (Z12 HO337.out) hb); have n5_ := A_ (Kd.R_below (Z12 HO341.out) hb); have n6_ := A_ (Kd.S_below (Z15 HO347.out) hb); have n7_ := A_ (blk_below (g := gb317) (o := .cells #[.slice A1_0 l1_0.length c1_0, .int .i64 a1_1, .slice A1_2 l1_2.length c1_2, .int .i64 a1_3] 45 (0, 0)) (Z3 BK317.out) hb); have n8_ := A_ (blk_below (g := gb343) (o := .cells #[.slice Ao91 t335.length co91, .int .i64 t338, .slice Ao94 t339.length co94, .int .i64 t342] 53 (0, 0)) (Z3 BK343.out) hb); have n9_ := A_ (below_step (Z6 GE317.out GE343.out) hb); clear HO322; clear HO325; clear HO329; clear HO334; clear HO337; clear HO341; clear HO347; clear BK317; clear BK343; clear HB; have HO322 := n0_; have HO325 := n1_; have HO329 := n2_; have HO334 := n3_; have HO337 := n4_; have HO341 := n5_; have HO347 := n6_; have BK317 := n7_; have BK343 := n8_; have HB := n9_; clear n0_ n1_ n2_ n3_ n4_ n5_ n6_ n7_ n8_ n9_; (try clear hb); (try clear hb2); (try clear hk); (try clear hi)))
      have n0_ := A_ (Kd.S_drew HO322.out)
      have n1_ := A_ (Kd.R_drew HO325.out)
      have n2_ := A_ (Kd.R_drew HO329.out)
      have n3_ := A_ (Kd.S_drew HO334.out)
      have n4_ := A_ (Kd.R_drew HO337.out)
      have n5_ := A_ (Kd.R_drew HO341.out)
      have n6_ := A_ (Kd.S_drew HO347.out)
      have n7_ := A_ (blk_drew BK317.out)
      have n8_ := A_ (blk_drew BK343.out)
      have n9_ := A_ (below_drew1 HB.out)
      clear HO322
      clear HO325
      clear HO329
      clear HO334
      clear HO337
      clear HO341
      clear HO347
      clear BK317
      clear BK343
      clear HB
      have HO322 := n0_
      have HO325 := n1_
      have HO329 := n2_
      have HO334 := n3_
      have HO337 := n4_
      have HO341 := n5_
      have HO347 := n6_
      have BK317 := n7_
      have BK343 := n8_
      have HB := n9_
      clear n0_ n1_ n2_ n3_ n4_ n5_ n6_ n7_ n8_ n9_
      refine start_ (n := 5) (S := fun w' => w'.cell? ⟨gb343, 0, none⟩ = some (.slice Ao91 t335.length co91) ∧ w'.cell? ⟨gb343, 1, none⟩ = some (.int .i64 t338) ∧ w'.cell? ⟨gb343, 2, none⟩ = some (.slice Ao94 t339.length co94) ∧ w'.cell? ⟨gb343, 3, none⟩ = some (.int .i64 t342) ∧ w'.cell? ⟨gb317, 0, none⟩ = some (.slice A1_0 l1_0.length c1_0) ∧ w'.cell? ⟨gb317, 1, none⟩ = some (.int .i64 a1_1) ∧ w'.cell? ⟨gb317, 2, none⟩ = some (.slice A1_2 l1_2.length c1_2) ∧ w'.cell? ⟨gb317, 3, none⟩ = some (.int .i64 a1_3)) (ds := []) #[F,F,F,F,F] (by kernel_rfl) rfl rfl ⟨(blk_cell BK343.out 0).trans rfl, (blk_cell BK343.out 1).trans rfl, (blk_cell BK343.out 2).trans rfl, (blk_cell BK343.out 3).trans rfl, (blk_cell BK317.out 0).trans rfl, (blk_cell BK317.out 1).trans rfl, (blk_cell BK317.out 2).trans rfl, (blk_cell BK317.out 3).trans rfl⟩ (fun hHeld => ?_)
      generalize w99.drew = w100 at HO322 HO325 HO329 HO334 HO337 HO341 HO347 BK317 BK343 HB hHeld ⊢
      refine take_ (i := 0) (N := some 40) (v := ?_) (a' := ?_) #[T,F,F,F,F] rfl rfl (by kernel_rfl) ZF (Or.inl ⟨by rfl, ?_⟩) hHeld ?_ ?_
      rotate_left
      ·exact Z40
      rotate_left
      ·exact Z0
      refine take_ (i := 1) (N := some 41) (v := ?_) (a' := ?_) #[T,T,F,F,F] rfl rfl (by kernel_rfl) ZF (Or.inl ⟨by rfl, ?_⟩) hHeld ?_ ?_
      rotate_left
      ·exact Z40
      rotate_left
      ·exact Z0
      refine one_ (i := 2) (N := some 42) #[T,T,T,F,F] rfl rfl (by kernel_rfl) (by decide) (fun K hK => ?_)
      refine goes_ Try.func22 (by kernel_rfl) rfl #[.agg #[.slice A1_0 l1_0.length c1_0, .int .i64 a1_1, .slice A1_2 l1_2.length c1_2, .int .i64 a1_3]] (by rfl) rfl rfl Z5 ?_
      with_reducible refine (laws_toUpdate.calls k _ _ l1_0 a1_1 _ _ l1_2 a1_3 t349 t352 t353 t356 _ ?side1 ?side2 ?side3 ?side4 A44.out).mono ?_
      (case side1 => exact Z4 HR1_0.out)
      (case side2 => exact HC1_0.out)
      (case side3 => exact Z4 HR1_2.out)
      (case side4 => exact HC1_2.out)
      rintro e w101 ⟨v350, v354, rfl, ho0, ho1, hb⟩
      refine ⟨_, rfl, ?_⟩
      have n0_ := A_ (Kd.S_elder' (Z15 HO322.out) (Kd.R_base ho0) hb)
      have n1_ := A_ (Kd.R_elder' (Z12 HO325.out) (Kd.R_base ho0) hb)
      have n2_ := A_ (Kd.R_elder' (Z12 HO329.out) (Kd.R_base ho1) hb)
      have n3_ := A_ (Kd.S_elder' (Z15 HO334.out) (Kd.R_base ho0) hb)
      have n4_ := A_ (Kd.R_elder' (Z12 HO337.out) (Kd.R_base ho0) hb)
      have n5_ := A_ (Kd.R_elder' (Z12 HO341.out) (Kd.R_base ho1) hb)
      have n6_ := A_ (Kd.S_elder' (Z15 HO347.out) (Kd.R_base ho0) hb)
      have n7_ := A_ (Kd.R_lower (Kd.R_new' (Kd.R_new' ho0 (Kd.R_lt (Z12 HO325.out))) (Kd.R_lt (Z12 HO337.out))) (below_size (Z6 GE317.out GE343.out)))
      have n8_ := A_ (Kd.R_lower (Kd.R_new' (Kd.R_new' ho1 (Kd.R_lt (Z12 HO329.out))) (Kd.R_lt (Z12 HO341.out))) (below_size (Z6 GE317.out GE343.out)))
      have n9_ := A_ (blk_below (g := gb317) (o := .cells #[.slice A1_0 l1_0.length c1_0, .int .i64 a1_1, .slice A1_2 l1_2.length c1_2, .int .i64 a1_3] 45 (0, 0)) (Z3 BK317.out) hb)
      have n10_ := A_ (blk_below (g := gb343) (o := .cells #[.slice Ao91 t335.length co91, .int .i64 t338, .slice Ao94 t339.length co94, .int .i64 t342] 53 (0, 0)) (Z3 BK343.out) hb)
      have n11_ := A_ (below_step (Z6 GE317.out GE343.out) hb)
      clear HO322
      clear HO325
      clear HO329
      clear HO334
      clear HO337
      clear HO341
      clear HO347
      clear BK317
      clear BK343
      clear HB
      have HO322 := n0_
      have HO325 := n1_
      have HO329 := n2_
      have HO334 := n3_
      have HO337 := n4_
      have HO341 := n5_
      have HO347 := n6_
      have HO351 := n7_
      have HO355 := n8_
      have BK317 := n9_
      have BK343 := n10_
      have HB := n11_
      clear n0_ n1_ n2_ n3_ n4_ n5_ n6_ n7_ n8_ n9_ n10_ n11_
      (try clear hb)
      (try clear hb2)
      (try clear hk)
      (try clear hi)
      (try clear ho0)
      (try clear ho1)
      obtain ⟨Ao102, co102, eo102⟩ := Kd.R_slice HO351.out
      (first | subst eo102 | (injection eo102 with f1_ f2_ f3_; have f4_ := f1_.symm; have f5_ := f3_.symm; clear f1_ f2_ f3_; subst f4_; subst f5_))
      obtain ⟨Ao103, co103, eo103⟩ := Kd.R_slice HO355.out
      (first | subst eo103 | (injection eo103 with f1_ f2_ f3_; have f4_ := f1_.symm; have f5_ := f3_.symm; clear f1_ f2_ f3_; subst f4_; subst f5_))
      refine hK.out _ _ ⟨(blk_cell BK343.out 0).trans rfl, (blk_cell BK343.out 1).trans rfl, (blk_cell BK343.out 2).trans rfl, (blk_cell BK343.out 3).trans rfl, (blk_cell BK317.out 0).trans rfl, (blk_cell BK317.out 1).trans rfl, (blk_cell BK317.out 2).trans rfl, (blk_cell BK317.out 3).trans rfl⟩ (fun hHeld => ?_)
      clear hK K
      refine norm_ (a' := ?_) ?_ ?_
      rotate_left
      ·show Act.put _ (some 42) _ = _
       simp only [Act.put, List.setIfInBounds_toArray, List.set_cons_zero, List.set_cons_succ, i64_w, i32_w]
       rfl
      refine one_ (i := 3) (N := some 43) #[T,T,T,T,F] rfl rfl (by kernel_rfl) (by decide) (fun K hK => ?_)
      refine goes_ Try.func25 (by kernel_rfl) rfl #[.agg #[.slice Ao91 t335.length co91, .int .i64 t338, .slice Ao94 t339.length co94, .int .i64 t342], .agg #[.slice Ao102 t349.length co102, .int .i64 t352, .slice Ao103 t353.length co103, .int .i64 t356]] (by rfl) rfl rfl Z5 ?_
      with_reducible refine (laws_eqUpdate.calls k _ _ t335 t338 _ _ t339 t342 _ _ t349 t352 _ _ t353 t356 false _ ?side1 ?side2 ?side3 ?side4 ?side5 ?side6 ?side7 ?side8 A45.out).mono ?_
      (case side1 => exact Z19 HO337.out)
      (case side2 => exact (Kd.R_reads' HO337.out).2.1)
      (case side3 => exact Z19 HO341.out)
      (case side4 => exact (Kd.R_reads' HO341.out).2.1)
      (case side5 => exact Z19 HO351.out)
      (case side6 => exact (Kd.R_reads' HO351.out).2.1)
      (case side7 => exact Z19 HO355.out)
      (case side8 => exact (Kd.R_reads' HO355.out).2.1)
      rintro e w104 ⟨rfl, hb⟩
      refine ⟨_, rfl, ?_⟩
      have n0_ := A_ (Kd.S_below (Z15 HO322.out) hb)
      have n1_ := A_ (Kd.R_below (Z12 HO325.out) hb)
      have n2_ := A_ (Kd.R_below (Z12 HO329.out) hb)
      have n3_ := A_ (Kd.S_below (Z15 HO334.out) hb)
      have n4_ := A_ (Kd.R_below (Z12 HO337.out) hb)
      have n5_ := A_ (Kd.R_below (Z12 HO341.out) hb)
      have n6_ := A_ (Kd.S_below (Z15 HO347.out) hb)
      have n7_ := A_ (Kd.R_below (Z12 HO351.out) hb)
      have n8_ := A_ (Kd.R_below (Z12 HO355.out) hb)
      have n9_ := A_ (blk_below (g := gb317) (o := .cells #[.slice A1_0 l1_0.length c1_0, .int .i64 a1_1, .slice A1_2 l1_2.length c1_2, .int .i64 a1_3] 45 (0, 0)) (Z3 BK317.out) hb)
      have n10_ := A_ (blk_below (g := gb343) (o := .cells #[.slice Ao91 t335.length co91, .int .i64 t338, .slice Ao94 t339.length co94, .int .i64 t342] 53 (0, 0)) (Z3 BK343.out) hb)
      have n11_ := A_ (below_step (Z6 GE317.out GE343.out) hb)
      clear HO322
      clear HO325
      clear HO329
      clear HO334
      clear HO337
      clear HO341
      clear HO347
      clear HO351
      clear HO355
      clear BK317
      clear BK343
      clear HB
      have HO322 := n0_
      have HO325 := n1_
      have HO329 := n2_
      have HO334 := n3_
      have HO337 := n4_
      have HO341 := n5_
      have HO347 := n6_
      have HO351 := n7_
      have HO355 := n8_
      have BK317 := n9_
      have BK343 := n10_
      have HB := n11_
      clear n0_ n1_ n2_ n3_ n4_ n5_ n6_ n7_ n8_ n9_ n10_ n11_
      (try clear hb)
      (try clear hb2)
      (try clear hk)
      (try clear hi)
      refine hK.out _ _ ⟨(blk_cell BK343.out 0).trans rfl, (blk_cell BK343.out 1).trans rfl, (blk_cell BK343.out 2).trans rfl, (blk_cell BK343.out 3).trans rfl, (blk_cell BK317.out 0).trans rfl, (blk_cell BK317.out 1).trans rfl, (blk_cell BK317.out 2).trans rfl, (blk_cell BK317.out 3).trans rfl⟩ (fun hHeld => ?_)
      clear hK K
      refine norm_ (a' := ?_) ?_ ?_
      rotate_left
      ·show Act.put _ (some 43) _ = _
       simp only [Act.put, List.setIfInBounds_toArray, List.set_cons_zero, List.set_cons_succ, i64_w, i32_w]
       rfl
      refine pure_ (i := 4) (N := some 44) (v := ?_) (a' := ?_) #[T,T,T,T,T] rfl rfl (by kernel_rfl) ZF (Or.inl ⟨by rfl, ?_⟩) ?_ ?_
      rotate_left
      ·exact Z13
      rotate_left
      ·exact Z0
      refine done_ (by kernel_rfl) ?_
      try go_wp2
      go_ret
      exact ⟨Z7, Z6 GE317.out GE343.out⟩
    ·replace c43 := Bool.eq_false_iff.mpr c43
     subst c43
     have H1 : (some false) = some r := by rw [if_neg (show ¬ (false = true) by decide)] at H; exact H
     clear H
     have H := H1
     clear H1
     obtain rfl := Option.some.inj H
     go_enter Try.func5, Try.ntmps5
     try go_wp2_with (first | ((with_reducible refine gate_dst (N := 3) rfl ?_); refine box_event ?hg (N := 3) ?hd (cs := #[.slice A1_0 l1_0.length c1_0, .int .i64 a1_1, .slice A1_2 l1_2.length c1_2, .int .i64 a1_3]) (t := 45) ?hr ?_; (case hd => rfl); (case hg => rfl); (case hr => exact Z16); intro gb317 hg w105 hbox hb; have n0_ := A_ (below_step Z1 hb); have n1_ := A_ (hbox); have n2_ := A_ ((by rw [hg]; exact (below_size Z1) : w.heap.size ≤ gb317)); have n3_ := A_ ((by rw [hg]; exact (below_size Z1) : w.heap.size ≤ gb317)); clear HB; have HB := n0_; have BK317 := n1_; have GW317 := n2_; have GE317 := n3_; clear n0_ n1_ n2_ n3_; clear hb hbox hg) | ((with_reducible refine gate_callee (f := 18) rfl ?_); refine goesL_ (some 12) rfl rfl Try.func18 (by kernel_rfl) rfl #[.slice A0 l0.length c0, .int .i64 1048576] rfl Z5 ?_; (with_reducible refine (laws_szCellS.calls k _ _ l0 1048576 t318 _ ?side1 ?side2 A3.out).mono ?_); (case side1 => exact Z4 HR0.out); (case side2 => exact HC0.out); rintro e w106 ⟨rfl, hb⟩; refine ⟨_, rfl, ?_⟩; have n0_ := A_ (blk_below (g := gb317) (o := .cells #[.slice A1_0 l1_0.length c1_0, .int .i64 a1_1, .slice A1_2 l1_2.length c1_2, .int .i64 a1_3] 45 (0, 0)) (Z3 BK317.out) hb); have n1_ := A_ (below_step (Z2 GE317.out) hb); clear BK317; clear HB; have BK317 := n0_; have HB := n1_; clear n0_ n1_; (try clear hb); (try clear hb2); (try clear hk); (try clear hi); have hcz107_0 : w106.cell? ⟨gb317, 0, none⟩ = some (.slice A1_0 l1_0.length c1_0) := (blk_cell BK317.out 0).trans rfl; have hcz107_1 : w106.cell? ⟨gb317, 1, none⟩ = some (.int .i64 a1_1) := (blk_cell BK317.out 1).trans rfl; have hcz107_2 : w106.cell? ⟨gb317, 2, none⟩ = some (.slice A1_2 l1_2.length c1_2) := (blk_cell BK317.out 2).trans rfl; have hcz107_3 : w106.cell? ⟨gb317, 3, none⟩ = some (.int .i64 a1_3) := (blk_cell BK317.out 3).trans rfl; have hfz107_0 := blk_frozen BK317.out 0; have hfz107_1 := blk_frozen BK317.out 1; have hfz107_2 := blk_frozen BK317.out 2; have hfz107_3 := blk_frozen BK317.out 3) | ((with_reducible refine gate_callee (f := 19) rfl ?_); refine goesL_ (some 17) rfl rfl Try.func19 (by kernel_rfl) rfl #[.agg #[.slice A1_0 l1_0.length c1_0, .int .i64 a1_1, .slice A1_2 l1_2.length c1_2, .int .i64 a1_3], .int .i64 t318] rfl Z5 ?_; (with_reducible refine (laws_szUpdate.calls k _ _ l1_0 a1_1 _ _ l1_2 a1_3 t318 t319 _ ?side1 ?side2 ?side3 ?side4 A7.out).mono ?_); (case side1 => exact Z4 HR1_0.out); (case side2 => exact HC1_0.out); (case side3 => exact Z4 HR1_2.out); (case side4 => exact HC1_2.out); rintro e w108 ⟨rfl, hb⟩; refine ⟨_, rfl, ?_⟩; have n0_ := A_ (blk_below (g := gb317) (o := .cells #[.slice A1_0 l1_0.length c1_0, .int .i64 a1_1, .slice A1_2 l1_2.length c1_2, .int .i64 a1_3] 45 (0, 0)) (Z3 BK317.out) hb); have n1_ := A_ (below_step (Z2 GE317.out) hb); clear BK317; clear HB; have BK317 := n0_; have HB := n1_; clear n0_ n1_; (try clear hb); (try clear hb2); (try clear hk); (try clear hi)))
     have n0_ := A_ (blk_drew BK317.out)
     have n1_ := A_ (below_drew1 HB.out)
     clear BK317
     clear HB
     have BK317 := n0_
     have HB := n1_
     clear n0_ n1_
     refine start_ (n := 6) (S := fun w' => w'.cell? ⟨gb317, 0, none⟩ = some (.slice A1_0 l1_0.length c1_0) ∧ w'.cell? ⟨gb317, 1, none⟩ = some (.int .i64 a1_1) ∧ w'.cell? ⟨gb317, 2, none⟩ = some (.slice A1_2 l1_2.length c1_2) ∧ w'.cell? ⟨gb317, 3, none⟩ = some (.int .i64 a1_3)) (ds := []) #[F,F,F,F,F,F] (by kernel_rfl) rfl rfl ⟨(blk_cell BK317.out 0).trans rfl, (blk_cell BK317.out 1).trans rfl, (blk_cell BK317.out 2).trans rfl, (blk_cell BK317.out 3).trans rfl⟩ (fun hHeld => ?_)
     generalize w108.drew = w109 at BK317 HB hHeld ⊢
     refine pure_ (i := 0) (N := some 20) (v := ?_) (a' := ?_) #[T,F,F,F,F,F] rfl rfl (by kernel_rfl) ZF (Or.inl ⟨by rfl, ?_⟩) ?_ ?_
     rotate_left
     ·exact Z13
     rotate_left
     ·exact Z0
     refine take_ (i := 2) (N := some 22) (v := ?_) (a' := ?_) #[T,F,T,F,F,F] rfl rfl (by kernel_rfl) ZF (Or.inl ⟨by rfl, ?_⟩) hHeld ?_ ?_
     rotate_left
     ·exact Z28
     rotate_left
     ·exact Z0
     refine one_ (i := 1) (N := some 21) #[T,T,T,F,F,F] rfl rfl (by kernel_rfl) (by decide) (fun K hK => ?_)
     refine goes_ Try.func21 (by kernel_rfl) rfl #[.slice A0 l0.length c0] (by rfl) rfl rfl Z5 ?_
     with_reducible refine (laws_toCellS.calls k _ _ l0 t320 _ ?side1 ?side2 A13.out).mono ?_
     (case side1 => exact Z4 HR0.out)
     (case side2 => exact HC0.out)
     rintro e w110 ⟨v321, rfl, ho0, hb⟩
     refine ⟨_, rfl, ?_⟩
     have n0_ := A_ (Kd.S_lower ho0 (below_size (Z2 GE317.out)))
     have n1_ := A_ (blk_below (g := gb317) (o := .cells #[.slice A1_0 l1_0.length c1_0, .int .i64 a1_1, .slice A1_2 l1_2.length c1_2, .int .i64 a1_3] 45 (0, 0)) (Z3 BK317.out) hb)
     have n2_ := A_ (below_step (Z2 GE317.out) hb)
     clear BK317
     clear HB
     have HO322 := n0_
     have BK317 := n1_
     have HB := n2_
     clear n0_ n1_ n2_
     (try clear hb)
     (try clear hb2)
     (try clear hk)
     (try clear hi)
     (try clear ho0)
     refine hK.out _ _ ⟨(blk_cell BK317.out 0).trans rfl, (blk_cell BK317.out 1).trans rfl, (blk_cell BK317.out 2).trans rfl, (blk_cell BK317.out 3).trans rfl⟩ (fun hHeld => ?_)
     clear hK K
     refine norm_ (a' := ?_) ?_ ?_
     rotate_left
     ·exact Z46
     refine one_ (i := 3) (N := some 23) #[T,T,T,T,F,F] rfl rfl (by kernel_rfl) (by decide) (fun K hK => ?_)
     refine goes_ Try.func22 (by kernel_rfl) rfl #[.agg #[.slice A1_0 l1_0.length c1_0, .int .i64 a1_1, .slice A1_2 l1_2.length c1_2, .int .i64 a1_3]] (by rfl) rfl rfl Z5 ?_
     with_reducible refine (laws_toUpdate.calls k _ _ l1_0 a1_1 _ _ l1_2 a1_3 t323 t326 t327 t330 _ ?side1 ?side2 ?side3 ?side4 A14.out).mono ?_
     (case side1 => exact Z4 HR1_0.out)
     (case side2 => exact HC1_0.out)
     (case side3 => exact Z4 HR1_2.out)
     (case side4 => exact HC1_2.out)
     rintro e w111 ⟨v324, v328, rfl, ho0, ho1, hb⟩
     refine ⟨_, rfl, ?_⟩
     have n0_ := A_ (Kd.S_elder' (Z15 HO322.out) (Kd.R_base ho0) hb)
     have n1_ := A_ (Kd.R_lower ho0 (below_size (Z2 GE317.out)))
     have n2_ := A_ (Kd.R_lower ho1 (below_size (Z2 GE317.out)))
     have n3_ := A_ (blk_below (g := gb317) (o := .cells #[.slice A1_0 l1_0.length c1_0, .int .i64 a1_1, .slice A1_2 l1_2.length c1_2, .int .i64 a1_3] 45 (0, 0)) (Z3 BK317.out) hb)
     have n4_ := A_ (below_step (Z2 GE317.out) hb)
     clear HO322
     clear BK317
     clear HB
     have HO322 := n0_
     have HO325 := n1_
     have HO329 := n2_
     have BK317 := n3_
     have HB := n4_
     clear n0_ n1_ n2_ n3_ n4_
     (try clear hb)
     (try clear hb2)
     (try clear hk)
     (try clear hi)
     (try clear ho0)
     (try clear ho1)
     obtain ⟨Ao112, co112, eo112⟩ := Kd.S_slice HO322.out
     (first | subst eo112 | (injection eo112 with f1_ f2_ f3_; have f4_ := f1_.symm; have f5_ := f3_.symm; clear f1_ f2_ f3_; subst f4_; subst f5_))
     obtain ⟨Ao113, co113, eo113⟩ := Kd.R_slice HO325.out
     (first | subst eo113 | (injection eo113 with f1_ f2_ f3_; have f4_ := f1_.symm; have f5_ := f3_.symm; clear f1_ f2_ f3_; subst f4_; subst f5_))
     obtain ⟨Ao114, co114, eo114⟩ := Kd.R_slice HO329.out
     (first | subst eo114 | (injection eo114 with f1_ f2_ f3_; have f4_ := f1_.symm; have f5_ := f3_.symm; clear f1_ f2_ f3_; subst f4_; subst f5_))
     refine hK.out _ _ ⟨(blk_cell BK317.out 0).trans rfl, (blk_cell BK317.out 1).trans rfl, (blk_cell BK317.out 2).trans rfl, (blk_cell BK317.out 3).trans rfl⟩ (fun hHeld => ?_)
     clear hK K
     refine norm_ (a' := ?_) ?_ ?_
     rotate_left
     ·exact Z45
     refine one_ (i := 4) (N := some 24) #[T,T,T,T,T,F] rfl rfl (by kernel_rfl) (by decide) (fun K hK => ?_)
     refine goes_ Try.func20 (by kernel_rfl) rfl #[.slice Ao112 t320.length co112, .agg #[.slice Ao113 t323.length co113, .int .i64 t326, .slice Ao114 t327.length co114, .int .i64 t330]] (by rfl) rfl rfl Z5 ?_
     with_reducible refine (spec_UpdateHas.calls k _ _ t320 _ _ t323 t326 _ _ t327 t330 t331 _ ?side1 ?side2 ?side3 ?side4 ?side5 ?side6 A15.out).mono ?_
     (case side1 => exact Z26 HO322.out)
     (case side2 => exact (Kd.S_reads' HO322.out).2.1)
     (case side3 => exact Z19 HO325.out)
     (case side4 => exact (Kd.R_reads' HO325.out).2.1)
     (case side5 => exact Z19 HO329.out)
     (case side6 => exact (Kd.R_reads' HO329.out).2.1)
     rintro e w115 ⟨rfl, hb⟩
     refine ⟨_, rfl, ?_⟩
     have n0_ := A_ (Kd.S_below (Z15 HO322.out) hb)
     have n1_ := A_ (Kd.R_below (Z12 HO325.out) hb)
     have n2_ := A_ (Kd.R_below (Z12 HO329.out) hb)
     have n3_ := A_ (blk_below (g := gb317) (o := .cells #[.slice A1_0 l1_0.length c1_0, .int .i64 a1_1, .slice A1_2 l1_2.length c1_2, .int .i64 a1_3] 45 (0, 0)) (Z3 BK317.out) hb)
     have n4_ := A_ (below_step (Z2 GE317.out) hb)
     clear HO322
     clear HO325
     clear HO329
     clear BK317
     clear HB
     have HO322 := n0_
     have HO325 := n1_
     have HO329 := n2_
     have BK317 := n3_
     have HB := n4_
     clear n0_ n1_ n2_ n3_ n4_
     (try clear hb)
     (try clear hb2)
     (try clear hk)
     (try clear hi)
     refine hK.out _ _ ⟨(blk_cell BK317.out 0).trans rfl, (blk_cell BK317.out 1).trans rfl, (blk_cell BK317.out 2).trans rfl, (blk_cell BK317.out 3).trans rfl⟩ (fun hHeld => ?_)
     clear hK K
     refine norm_ (a' := ?_) ?_ ?_
     rotate_left
     ·exact Z44
     refine pure_ (i := 5) (N := some 6) (v := ?_) (a' := ?_) #[T,T,T,T,T,T] rfl rfl (by kernel_rfl) ZF (Or.inl ⟨by rfl, ?_⟩) ?_ ?_
     rotate_left
     ·exact Z13
     rotate_left
     ·exact Z0
     refine done_ (by kernel_rfl) ?_
     try go_wp2_with (first | ((with_reducible refine gate_callee (f := 21) rfl ?_); refine goesL_ (some 26) rfl rfl Try.func21 (by kernel_rfl) rfl #[.slice A0 l0.length c0] rfl Z5 ?_; (with_reducible refine (laws_toCellS.calls k _ _ l0 t332 _ ?side1 ?side2 A16.out).mono ?_); (case side1 => exact Z4 HR0.out); (case side2 => exact HC0.out); rintro e w116 ⟨v333, rfl, ho0, hb⟩; refine ⟨_, rfl, ?_⟩; have n0_ := A_ (Kd.S_elder' (Z15 HO322.out) (Kd.S_base ho0) hb); have n1_ := A_ (Kd.R_below (Z12 HO325.out) hb); have n2_ := A_ (Kd.R_below (Z12 HO329.out) hb); have n3_ := A_ (Kd.S_lower (Kd.S_new' (Kd.S_new' ho0 (Kd.S_lt (Z15 HO322.out))) (Kd.R_lt (Z12 HO325.out))) (below_size (Z2 GE317.out))); have n4_ := A_ (blk_below (g := gb317) (o := .cells #[.slice A1_0 l1_0.length c1_0, .int .i64 a1_1, .slice A1_2 l1_2.length c1_2, .int .i64 a1_3] 45 (0, 0)) (Z3 BK317.out) hb); have n5_ := A_ (below_step (Z2 GE317.out) hb); clear HO322; clear HO325; clear HO329; clear BK317; clear HB; have HO322 := n0_; have HO325 := n1_; have HO329 := n2_; have HO334 := n3_; have BK317 := n4_; have HB := n5_; clear n0_ n1_ n2_ n3_ n4_ n5_; (try clear hb); (try clear hb2); (try clear hk); (try clear hi); (try clear ho0); have hcz117_0 : w116.cell? ⟨gb317, 0, none⟩ = some (.slice A1_0 l1_0.length c1_0) := (blk_cell BK317.out 0).trans rfl; have hcz117_1 : w116.cell? ⟨gb317, 1, none⟩ = some (.int .i64 a1_1) := (blk_cell BK317.out 1).trans rfl; have hcz117_2 : w116.cell? ⟨gb317, 2, none⟩ = some (.slice A1_2 l1_2.length c1_2) := (blk_cell BK317.out 2).trans rfl; have hcz117_3 : w116.cell? ⟨gb317, 3, none⟩ = some (.int .i64 a1_3) := (blk_cell BK317.out 3).trans rfl; have hfz117_0 := blk_frozen BK317.out 0; have hfz117_1 := blk_frozen BK317.out 1; have hfz117_2 := blk_frozen BK317.out 2; have hfz117_3 := blk_frozen BK317.out 3) | ((with_reducible refine gate_callee (f := 22) rfl ?_); refine goesL_ (some 28) rfl rfl Try.func22 (by kernel_rfl) rfl #[.agg #[.slice A1_0 l1_0.length c1_0, .int .i64 a1_1, .slice A1_2 l1_2.length c1_2, .int .i64 a1_3]] rfl Z5 ?_; (with_reducible refine (laws_toUpdate.calls k _ _ l1_0 a1_1 _ _ l1_2 a1_3 t335 t338 t339 t342 _ ?side1 ?side2 ?side3 ?side4 A17.out).mono ?_); (case side1 => exact Z4 HR1_0.out); (case side2 => exact HC1_0.out); (case side3 => exact Z4 HR1_2.out); (case side4 => exact HC1_2.out); rintro e w118 ⟨v336, v340, rfl, ho0, ho1, hb⟩; refine ⟨_, rfl, ?_⟩; have n0_ := A_ (Kd.S_elder' (Z15 HO322.out) (Kd.R_base ho0) hb); have n1_ := A_ (Kd.R_elder' (Z12 HO325.out) (Kd.R_base ho0) hb); have n2_ := A_ (Kd.R_elder' (Z12 HO329.out) (Kd.R_base ho1) hb); have n3_ := A_ (Kd.S_elder' (Z15 HO334.out) (Kd.R_base ho0) hb); have n4_ := A_ (Kd.R_lower (Kd.R_new' ho0 (Kd.R_lt (Z12 HO325.out))) (below_size (Z2 GE317.out))); have n5_ := A_ (Kd.R_lower (Kd.R_new' ho1 (Kd.R_lt (Z12 HO329.out))) (below_size (Z2 GE317.out))); have n6_ := A_ (blk_below (g := gb317) (o := .cells #[.slice A1_0 l1_0.length c1_0, .int .i64 a1_1, .slice A1_2 l1_2.length c1_2, .int .i64 a1_3] 45 (0, 0)) (Z3 BK317.out) hb); have n7_ := A_ (below_step (Z2 GE317.out) hb); clear HO322; clear HO325; clear HO329; clear HO334; clear BK317; clear HB; have HO322 := n0_; have HO325 := n1_; have HO329 := n2_; have HO334 := n3_; have HO337 := n4_; have HO341 := n5_; have BK317 := n6_; have HB := n7_; clear n0_ n1_ n2_ n3_ n4_ n5_ n6_ n7_; (try clear hb); (try clear hb2); (try clear hk); (try clear hi); (try clear ho0); (try clear ho1)) | ((with_reducible refine gate_dst (N := 8) rfl ?_); refine box_event ?hg (N := 8) ?hd (cs := #[.slice none 0 0, .int .i64 0, .slice none 0 0, .int .i64 0]) (t := 53) ?hr ?_; (case hd => rfl); (case hg => rfl); (case hr => exact Z16); intro gb343 hg w119 hbox hb; have n0_ := A_ (Kd.S_below (Z15 HO322.out) hb); have n1_ := A_ (Kd.R_below (Z12 HO325.out) hb); have n2_ := A_ (Kd.R_below (Z12 HO329.out) hb); have n3_ := A_ (Kd.S_below (Z15 HO334.out) hb); have n4_ := A_ (Kd.R_below (Z12 HO337.out) hb); have n5_ := A_ (Kd.R_below (Z12 HO341.out) hb); have n6_ := A_ (blk_below (g := gb317) (o := .cells #[.slice A1_0 l1_0.length c1_0, .int .i64 a1_1, .slice A1_2 l1_2.length c1_2, .int .i64 a1_3] 45 (0, 0)) (Z3 BK317.out) hb); have n7_ := A_ (below_step (Z2 GE317.out) hb); have n8_ := A_ (hbox); have n9_ := A_ ((by rw [hg]; exact (below_size (Z2 GE317.out)) : w.heap.size ≤ gb343)); have n10_ := A_ ((by rw [hg]; exact (below_size (Z2 GE317.out)) : w.heap.size ≤ gb343)); have n11_ := A_ ((by rw [hg]; exact Nat.ne_of_lt (blk_lt (g := gb317) (o := .cells #[.slice A1_0 l1_0.length c1_0, .int .i64 a1_1, .slice A1_2 l1_2.length c1_2, .int .i64 a1_3] 45 (0, 0)) (Z3 BK317.out)) : gb317 ≠ gb343)); have n12_ := A_ ((by rw [hg]; exact Nat.ne_of_gt (blk_lt (g := gb317) (o := .cells #[.slice A1_0 l1_0.length c1_0, .int .i64 a1_1, .slice A1_2 l1_2.length c1_2, .int .i64 a1_3] 45 (0, 0)) (Z3 BK317.out)) : gb343 ≠ gb317)); clear HO322; clear HO325; clear HO329; clear HO334; clear HO337; clear HO341; clear BK317; clear HB; have HO322 := n0_; have HO325 := n1_; have HO329 := n2_; have HO334 := n3_; have HO337 := n4_; have HO341 := n5_; have BK317 := n6_; have HB := n7_; have BK343 := n8_; have GW343 := n9_; have GE343 := n10_; have NB317_343 := n11_; have NB343_317 := n12_; clear n0_ n1_ n2_ n3_ n4_ n5_ n6_ n7_ n8_ n9_ n10_ n11_ n12_; clear hb hbox hg; obtain ⟨Ao120, co120, eo120⟩ := Kd.R_slice HO337.out; subst eo120; have hnb121 := NB343_317.out; have hnc121 := NB317_343.out; have hcz122_0 : w119.cell? ⟨gb343, 0, none⟩ = some (.slice none 0 0) := (blk_cell BK343.out 0).trans rfl; have hcz122_1 : w119.cell? ⟨gb343, 1, none⟩ = some (.int .i64 0) := (blk_cell BK343.out 1).trans rfl; have hcz122_2 : w119.cell? ⟨gb343, 2, none⟩ = some (.slice none 0 0) := (blk_cell BK343.out 2).trans rfl; have hcz122_3 : w119.cell? ⟨gb343, 3, none⟩ = some (.int .i64 0) := (blk_cell BK343.out 3).trans rfl; have hfz122_0 := blk_frozen BK343.out 0; have hfz122_1 := blk_frozen BK343.out 1; have hfz122_2 := blk_frozen BK343.out 2; have hfz122_3 := blk_frozen BK343.out 3; obtain ⟨Ao123, co123, eo123⟩ := Kd.R_slice HO341.out; subst eo123; obtain ⟨Ao124, co124, eo124⟩ := Kd.S_slice HO334.out; subst eo124) | ((with_reducible refine gate_callee (f := 23) rfl ?_); refine goesL_ (some 31) rfl rfl Try.func23 (by kernel_rfl) rfl #[.slice Ao124 t332.length co124, .agg #[.slice Ao120 t335.length co120, .int .i64 t338, .slice Ao123 t339.length co123, .int .i64 t342]] rfl Z5 ?_; (with_reducible refine (impl_UpdateHas.calls k _ _ t332 _ _ t335 t338 _ _ t339 t342 t344 _ ?side1 ?side2 ?side3 ?side4 ?side5 ?side6 A18.out).mono ?_); (case side1 => refine (Kd.S_reads' (e := 95) (base := w.heap.size) (ok := fun k_ => (((True ∧ some k_ ≠ (.slice Ao112 t320.length co112 : Value).ownBlock) ∧ some k_ ≠ (.slice Ao113 t323.length co113 : Value).ownBlock) ∧ some k_ ≠ (.slice Ao120 t335.length co120 : Value).ownBlock)) (n := t332.length) (c := co124) ?_).2.2; exact (by (with_reducible repeat (first | apply Kd.S_alloc | apply Kd.S_drewN | apply Kd.S_drew)); exact (Kd.S_mono (Kd.S_far (p := ⟨gb343, 3, none⟩) (Kd.S_far (p := ⟨gb343, 2, none⟩) (Kd.S_far (p := ⟨gb343, 1, none⟩) (Kd.S_far (p := ⟨gb343, 0, none⟩) (Kd.S_types HO334.out BK343.out (by decide)) (fun _ hk => hk.2) (.slice Ao120 t335.length co120)) (fun _ hk => hk.2) (.int .i64 t338)) (fun _ hk => hk.2) (.slice Ao123 t339.length co123)) (fun _ hk => hk.2) (.int .i64 t342)) (fun _ h_ => h_.1)))); (case side2 => exact (Kd.S_reads' HO334.out).2.1); (case side3 => refine (Kd.R_reads' (e := 121) (base := w.heap.size) (ok := fun k_ => (True ∧ some k_ ≠ (.slice Ao113 t323.length co113 : Value).ownBlock)) (n := t335.length) (c := co120) ?_).2.2; exact (Z20 HO337.out BK343.out)); (case side4 => exact (Kd.R_reads' HO337.out).2.1); (case side5 => refine (Kd.R_reads' (e := 126) (base := w.heap.size) (ok := fun k_ => (True ∧ some k_ ≠ (.slice Ao114 t327.length co114 : Value).ownBlock)) (n := t339.length) (c := co123) ?_).2.2; exact (Z20 HO341.out BK343.out)); (case side6 => exact (Kd.R_reads' HO341.out).2.1); rintro e w125 ⟨rfl, hb⟩; refine ⟨_, rfl, ?_⟩; have n0_ := A_ (Kd.S_below (by (with_reducible repeat (first | apply Kd.S_alloc | apply Kd.S_drewN | apply Kd.S_drew)); exact (Kd.S_mono (Kd.S_far (p := ⟨gb343, 3, none⟩) (Kd.S_far (p := ⟨gb343, 2, none⟩) (Kd.S_far (p := ⟨gb343, 1, none⟩) (Kd.S_far (p := ⟨gb343, 0, none⟩) (Kd.S_types HO322.out BK343.out (by decide)) (fun _ hk => hk.2) (.slice Ao120 t335.length co120)) (fun _ hk => hk.2) (.int .i64 t338)) (fun _ hk => hk.2) (.slice Ao123 t339.length co123)) (fun _ hk => hk.2) (.int .i64 t342)) (fun _ h_ => h_.1))) hb); have n1_ := A_ (Kd.R_below (Z20 HO325.out BK343.out) hb); have n2_ := A_ (Kd.R_below (Z20 HO329.out BK343.out) hb); have n3_ := A_ (Kd.S_below (by (with_reducible repeat (first | apply Kd.S_alloc | apply Kd.S_drewN | apply Kd.S_drew)); exact (Kd.S_mono (Kd.S_far (p := ⟨gb343, 3, none⟩) (Kd.S_far (p := ⟨gb343, 2, none⟩) (Kd.S_far (p := ⟨gb343, 1, none⟩) (Kd.S_far (p := ⟨gb343, 0, none⟩) (Kd.S_types HO334.out BK343.out (by decide)) (fun _ hk => hk.2) (.slice Ao120 t335.length co120)) (fun _ hk => hk.2) (.int .i64 t338)) (fun _ hk => hk.2) (.slice Ao123 t339.length co123)) (fun _ hk => hk.2) (.int .i64 t342)) (fun _ h_ => h_.1))) hb); have n4_ := A_ (Kd.R_below (Z20 HO337.out BK343.out) hb); have n5_ := A_ (Kd.R_below (Z20 HO341.out BK343.out) hb); have n6_ := A_ (blk_below (g := gb317) (o := .cells #[.slice A1_0 l1_0.length c1_0, .int .i64 a1_1, .slice A1_2 l1_2.length c1_2, .int .i64 a1_3] 45 (0, 0)) (Z25 NB317_343.out BK317.out) hb); have n7_ := A_ (blk_below (g := gb343) (o := .cells #[.slice Ao120 t335.length co120, .int .i64 t338, .slice Ao123 t339.length co123, .int .i64 t342] 53 (0, 0)) (by (with_reducible repeat (first | refine blk_drewN ?_ _ | refine blk_drew ?_ | refine blk_alloc ?_ _)); refine blk_put (cs := #[.slice Ao120 t335.length co120, .int .i64 t338, .slice Ao123 t339.length co123, .int .i64 0]) ?_ 3 _ rfl; (with_reducible repeat (first | refine blk_drewN ?_ _ | refine blk_drew ?_ | refine blk_alloc ?_ _)); refine blk_put (cs := #[.slice Ao120 t335.length co120, .int .i64 t338, .slice none 0 0, .int .i64 0]) ?_ 2 _ rfl; (with_reducible repeat (first | refine blk_drewN ?_ _ | refine blk_drew ?_ | refine blk_alloc ?_ _)); refine blk_put (cs := #[.slice Ao120 t335.length co120, .int .i64 0, .slice none 0 0, .int .i64 0]) ?_ 1 _ rfl; (with_reducible repeat (first | refine blk_drewN ?_ _ | refine blk_drew ?_ | refine blk_alloc ?_ _)); refine blk_put (cs := #[.slice none 0 0, .int .i64 0, .slice none 0 0, .int .i64 0]) ?_ 0 _ rfl; (with_reducible repeat (first | refine blk_drewN ?_ _ | refine blk_drew ?_ | refine blk_alloc ?_ _)); exact BK343.out) hb); have n8_ := A_ (below_step (Z6 GE317.out GE343.out) hb); clear HO322; clear HO325; clear HO329; clear HO334; clear HO337; clear HO341; clear BK317; clear BK343; clear HB; have HO322 := n0_; have HO325 := n1_; have HO329 := n2_; have HO334 := n3_; have HO337 := n4_; have HO341 := n5_; have BK317 := n6_; have BK343 := n7_; have HB := n8_; clear n0_ n1_ n2_ n3_ n4_ n5_ n6_ n7_ n8_; (try clear hb); (try clear hb2); (try clear hk); (try clear hi)) | ((with_reducible refine gate_callee (f := 21) rfl ?_); refine goesL_ (some 37) rfl rfl Try.func21 (by kernel_rfl) rfl #[.slice A0 l0.length c0] rfl Z5 ?_; (with_reducible refine (laws_toCellS.calls k _ _ l0 t345 _ ?side1 ?side2 A41.out).mono ?_); (case side1 => exact Z4 HR0.out); (case side2 => exact HC0.out); rintro e w126 ⟨v346, rfl, ho0, hb⟩; refine ⟨_, rfl, ?_⟩; have n0_ := A_ (Kd.S_elder' (Z15 HO322.out) (Kd.S_base ho0) hb); have n1_ := A_ (Kd.R_below (Z12 HO325.out) hb); have n2_ := A_ (Kd.R_below (Z12 HO329.out) hb); have n3_ := A_ (Kd.S_elder' (Z15 HO334.out) (Kd.S_base ho0) hb); have n4_ := A_ (Kd.R_below (Z12 HO337.out) hb); have n5_ := A_ (Kd.R_below (Z12 HO341.out) hb); have n6_ := A_ (Kd.S_lower (Kd.S_new' (Kd.S_new' (Kd.S_new' (Kd.S_new' ho0 (Kd.S_lt (Z15 HO322.out))) (Kd.R_lt (Z12 HO325.out))) (Kd.S_lt (Z15 HO334.out))) (Kd.R_lt (Z12 HO337.out))) (below_size (Z6 GE317.out GE343.out))); have n7_ := A_ (blk_below (g := gb317) (o := .cells #[.slice A1_0 l1_0.length c1_0, .int .i64 a1_1, .slice A1_2 l1_2.length c1_2, .int .i64 a1_3] 45 (0, 0)) (Z3 BK317.out) hb); have n8_ := A_ (blk_below (g := gb343) (o := .cells #[.slice Ao120 t335.length co120, .int .i64 t338, .slice Ao123 t339.length co123, .int .i64 t342] 53 (0, 0)) (Z3 BK343.out) hb); have n9_ := A_ (below_step (Z6 GE317.out GE343.out) hb); clear HO322; clear HO325; clear HO329; clear HO334; clear HO337; clear HO341; clear BK317; clear BK343; clear HB; have HO322 := n0_; have HO325 := n1_; have HO329 := n2_; have HO334 := n3_; have HO337 := n4_; have HO341 := n5_; have HO347 := n6_; have BK317 := n7_; have BK343 := n8_; have HB := n9_; clear n0_ n1_ n2_ n3_ n4_ n5_ n6_ n7_ n8_ n9_; (try clear hb); (try clear hb2); (try clear hk); (try clear hi); (try clear ho0); obtain ⟨Ao127, co127, eo127⟩ := Kd.S_slice HO347.out; subst eo127) | ((with_reducible refine gate_callee (f := 24) rfl ?_); refine goesL_ (some 38) rfl rfl Try.func24 (by kernel_rfl) rfl #[.slice Ao124 t332.length co124, .slice Ao127 t345.length co127] rfl Z5 ?_; (with_reducible refine (laws_eqCellS.calls k _ _ t332 _ _ t345 false _ ?side1 ?side2 ?side3 ?side4 A42.out).mono ?_); (case side1 => exact Z26 HO334.out); (case side2 => exact (Kd.S_reads' HO334.out).2.1); (case side3 => exact Z26 HO347.out); (case side4 => exact (Kd.S_reads' HO347.out).2.1); rintro e w128 ⟨rfl, hb⟩; refine ⟨_, rfl, ?_⟩; have n0_ := A_ (Kd.S_below (Z15 HO322.out) hb); have n1_ := A_ (Kd.R_below (Z12 HO325.out) hb); have n2_ := A_ (Kd.R_below (Z12 HO329.out) hb); have n3_ := A_ (Kd.S_below (Z15 HO334.out) hb); have n4_ := A_ (Kd.R_below (Z12 HO337.out) hb); have n5_ := A_ (Kd.R_below (Z12 HO341.out) hb); have n6_ := A_ (Kd.S_below (Z15 HO347.out) hb); have n7_ := A_ (blk_below (g := gb317) (o := .cells #[.slice A1_0 l1_0.length c1_0, .int .i64 a1_1, .slice A1_2 l1_2.length c1_2, .int .i64 a1_3] 45 (0, 0)) (Z3 BK317.out) hb); have n8_ := A_ (blk_below (g := gb343) (o := .cells #[.slice Ao120 t335.length co120, .int .i64 t338, .slice Ao123 t339.length co123, .int .i64 t342] 53 (0, 0)) (Z3 BK343.out) hb); have n9_ := A_ (below_step (Z6 GE317.out GE343.out) hb); clear HO322; clear HO325; clear HO329; clear HO334; clear HO337; clear HO341; clear HO347; clear BK317; clear BK343; clear HB; have HO322 := n0_; have HO325 := n1_; have HO329 := n2_; have HO334 := n3_; have HO337 := n4_; have HO341 := n5_; have HO347 := n6_; have BK317 := n7_; have BK343 := n8_; have HB := n9_; clear n0_ n1_ n2_ n3_ n4_ n5_ n6_ n7_ n8_ n9_; (try clear hb); (try clear hb2); (try clear hk); (try clear hi)))
     go_ret
     exact ⟨Z7, Z6 GE317.out GE343.out⟩
end Go.Proofs.Ytmphggpibaolcaa.PFnExactUpdateHas
