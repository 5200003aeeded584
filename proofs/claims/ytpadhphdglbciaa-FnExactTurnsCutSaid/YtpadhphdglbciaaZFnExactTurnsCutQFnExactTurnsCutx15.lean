/- Walks of the functions that the law 'FnExactTurnsCut' reaches, part 15: for each a Lean function and the proof that Go's comes to just its answer (lines of the print, under own names; no condition). -/
import Derived.Test.YtpadhphdglbciaaZFnExactTurnsCutMFnExactTurnsCut
import Derived.Test.YtpadhphdglbciaaZFnExactTurnsCutQFnExactTurnsCutx0
import Derived.Test.YtpadhphdglbciaaZFnExactTurnsCutQFnExactTurnsCutx2
import Derived.Test.YtpadhphdglbciaaZFnExactTurnsCutQFnExactTurnsCutx5
import Derived.Test.YtpadhphdglbciaaZFnExactTurnsCutQFnExactTurnsCutx6
import Derived.Test.YtpadhphdglbciaaZFnExactTurnsCutQFnExactTurnsCutx10
import Derived.Test.YtpadhphdglbciaaZFnExactTurnsCutQFnExactTurnsCutx12
import Derived.Test.YtpadhphdglbciaaZFnExactTurnsCutQFnExactTurnsCutx14
namespace Go.Proofs.Ytpadhphdglbciaa.PFnExactTurnsCut
open Go.RowKit Go.Proofs.YtpadhphdglbciaaW.PrintWords Go.Proofs.YtpadhphdglbciaaW.PrintLast Go.Proofs.YtpadhphdglbciaaW.PrintMore
attribute [local go_sem] max2_int min2_int max_two min_two max_three min_three max_four min_four
set_option linter.unusedVariables false
set_option linter.unusedSimpArgs false
mutual
def laws_FnExactTurnsCut.j0 : Nat → List (S115) → Int → List (S122) → Bool → List (S122) → List (S122) → Bool → Bool → Option (Bool)
 | 0, _, _, _, _, _, _, _, _ => none
 | k + 1, x0, x1, x6, x7, x8, x9, x10, x44 => if x44 = true then (some false) else ((laws_toTurnS.f k x0).bind fun t407 => ((laws_eqTurnS.f k x8 t407).bind fun t410 => (if t410 = true then ((laws_markTurnS.f k x8 1).bind fun bt411 => (if bt411.1 < 0 then (laws_FnExactTurnsCut.j1 k x0 x1 x6 x7 x9 true) else ((laws_eqTurnS.f k x9 x6).bind fun t413 => (if t413 = true then (laws_FnExactTurnsCut.j1 k x0 x1 x6 x7 x9 (x10 != x7)) else (laws_FnExactTurnsCut.j1 k x0 x1 x6 x7 x9 true))))) else (some false))))
def laws_FnExactTurnsCut.j1 : Nat → List (S115) → Int → List (S122) → Bool → List (S122) → Bool → Option (Bool)
 | 0, _, _, _, _, _, _ => none
 | k + 1, x0, x1, x6, x7, x9, x65 => if x65 = true then (some false) else ((laws_markTurnS.f k x9 1).bind fun bt414 => ((laws_heldTurnS.f k bt414.2 1).bind fun t416 => (if t416 < 0 then (some false) else (if t416 = bt414.1 then ((laws_toTurnS.f k x0).bind fun t417 => ((impl_TurnsCut.f k t417 x1).bind fun bt420 => ((laws_eqTurnS.f k bt420.1 x6).bind fun t424 => (if t424 = true then (laws_FnExactTurnsCut.j2 k bt414.2 bt414.1 (bt420.2 != x7)) else (laws_FnExactTurnsCut.j2 k bt414.2 bt414.1 true))))) else (some false)))))
def laws_FnExactTurnsCut.j2 : Nat → List (S122) → Int → Bool → Option (Bool)
 | 0, _, _, _ => none
 | k + 1, x9, x12, x92 => if x92 = true then (some false) else ((laws_heldTurnS.f k x9 1).bind fun t425 => (if t425 < 0 then (some false) else (if t425 = x12 then (some true) else (some false))))
end
def laws_FnExactTurnsCut.f (k : Nat) (l0 : List (S115)) (a1 : Int) : Option (Bool) := (laws_szTurnS.f k l0 1048576).bind fun t391 => (if t391 < 0 then (some true) else ((laws_toTurnS.f k l0).bind fun t392 => ((spec_TurnsCut.f k t392 a1).bind fun bt395 => ((laws_toTurnS.f k l0).bind fun t399 => ((impl_TurnsCut.f k t399 a1).bind fun bt402 => ((laws_eqTurnS.f k bt402.1 bt395.1).bind fun t406 => (if t406 = true then (laws_FnExactTurnsCut.j0 k l0 a1 bt395.1 bt395.2 t399 bt402.1 bt402.2 (bt402.2 != bt395.2)) else (laws_FnExactTurnsCut.j0 k l0 a1 bt395.1 bt395.2 t399 bt402.1 bt402.2 true))))))))
theorem laws_FnExactTurnsCut.mono_l : ∀ k, (∀ y0 y1 y2 y3 y4 y5 y6 y7, LeO (laws_FnExactTurnsCut.j0 k y0 y1 y2 y3 y4 y5 y6 y7) (laws_FnExactTurnsCut.j0 (k + 1) y0 y1 y2 y3 y4 y5 y6 y7)) ∧ (∀ y0 y1 y2 y3 y4 y5, LeO (laws_FnExactTurnsCut.j1 k y0 y1 y2 y3 y4 y5) (laws_FnExactTurnsCut.j1 (k + 1) y0 y1 y2 y3 y4 y5)) ∧ (∀ y0 y1 y2, LeO (laws_FnExactTurnsCut.j2 k y0 y1 y2) (laws_FnExactTurnsCut.j2 (k + 1) y0 y1 y2))
 | 0 => ⟨fun _ _ _ _ _ _ _ _ r h => by simp [laws_FnExactTurnsCut.j0] at h, fun _ _ _ _ _ _ r h => by simp [laws_FnExactTurnsCut.j1] at h, fun _ _ _ r h => by simp [laws_FnExactTurnsCut.j2] at h⟩
 | k + 1 => by
  obtain ⟨ih0, ih1, ih2⟩ := laws_FnExactTurnsCut.mono_l k
  refine ⟨?_, ?_, ?_⟩
  ·intro y0 y1 y2 y3 y4 y5 y6 y7
   unfold laws_FnExactTurnsCut.j0
   repeat' first
   | (with_reducible exact ih0 _ _ _ _ _ _ _ _)
   | (with_reducible exact ih1 _ _ _ _ _ _)
   | (with_reducible exact ih2 _ _ _)
   | (with_reducible exact impl_TurnsCut.mono _ _ _)
   | (with_reducible exact laws_eqTurnS.mono _ _ _)
   | (with_reducible exact laws_heldTurnS.mono _ _ _)
   | (with_reducible exact laws_markTurnS.mono _ _ _)
   | (with_reducible exact laws_szTurnS.mono _ _ _)
   | (with_reducible exact laws_toTurnS.mono _ _)
   | (with_reducible exact spec_TurnsCut.mono _ _ _)
   | (with_reducible exact LeO.refl _)
   | (with_reducible exact LeO.none _)
   | (with_reducible refine LeO.ite ?_ ?_)
   | (with_reducible refine LeO.bind ?_ (fun _ => ?_))
   | exact ih0 _ _ _ _ _ _ _ _
   | exact ih1 _ _ _ _ _ _
   | exact ih2 _ _ _
   | exact impl_TurnsCut.mono _ _ _
   | exact laws_eqTurnS.mono _ _ _
   | exact laws_heldTurnS.mono _ _ _
   | exact laws_markTurnS.mono _ _ _
   | exact laws_szTurnS.mono _ _ _
   | exact laws_toTurnS.mono _ _
   | exact spec_TurnsCut.mono _ _ _
   | exact LeO.none _
   | refine LeO.ite ?_ ?_
   | refine LeO.bind ?_ (fun _ => ?_)
  ·intro y0 y1 y2 y3 y4 y5
   unfold laws_FnExactTurnsCut.j1
   repeat' first
   | (with_reducible exact ih0 _ _ _ _ _ _ _ _)
   | (with_reducible exact ih1 _ _ _ _ _ _)
   | (with_reducible exact ih2 _ _ _)
   | (with_reducible exact impl_TurnsCut.mono _ _ _)
   | (with_reducible exact laws_eqTurnS.mono _ _ _)
   | (with_reducible exact laws_heldTurnS.mono _ _ _)
   | (with_reducible exact laws_markTurnS.mono _ _ _)
   | (with_reducible exact laws_szTurnS.mono _ _ _)
   | (with_reducible exact laws_toTurnS.mono _ _)
   | (with_reducible exact spec_TurnsCut.mono _ _ _)
   | (with_reducible exact LeO.refl _)
   | (with_reducible exact LeO.none _)
   | (with_reducible refine LeO.ite ?_ ?_)
   | (with_reducible refine LeO.bind ?_ (fun _ => ?_))
   | exact ih0 _ _ _ _ _ _ _ _
   | exact ih1 _ _ _ _ _ _
   | exact ih2 _ _ _
   | exact impl_TurnsCut.mono _ _ _
   | exact laws_eqTurnS.mono _ _ _
   | exact laws_heldTurnS.mono _ _ _
   | exact laws_markTurnS.mono _ _ _
   | exact laws_szTurnS.mono _ _ _
   | exact laws_toTurnS.mono _ _
   | exact spec_TurnsCut.mono _ _ _
   | exact LeO.none _
   | refine LeO.ite ?_ ?_
   | refine LeO.bind ?_ (fun _ => ?_)
  ·intro y0 y1 y2
   unfold laws_FnExactTurnsCut.j2
   repeat' first
   | (with_reducible exact ih0 _ _ _ _ _ _ _ _)
   | (with_reducible exact ih1 _ _ _ _ _ _)
   | (with_reducible exact ih2 _ _ _)
   | (with_reducible exact impl_TurnsCut.mono _ _ _)
   | (with_reducible exact laws_eqTurnS.mono _ _ _)
   | (with_reducible exact laws_heldTurnS.mono _ _ _)
   | (with_reducible exact laws_markTurnS.mono _ _ _)
   | (with_reducible exact laws_szTurnS.mono _ _ _)
   | (with_reducible exact laws_toTurnS.mono _ _)
   | (with_reducible exact spec_TurnsCut.mono _ _ _)
   | (with_reducible exact LeO.refl _)
   | (with_reducible exact LeO.none _)
   | (with_reducible refine LeO.ite ?_ ?_)
   | (with_reducible refine LeO.bind ?_ (fun _ => ?_))
   | exact ih0 _ _ _ _ _ _ _ _
   | exact ih1 _ _ _ _ _ _
   | exact ih2 _ _ _
   | exact impl_TurnsCut.mono _ _ _
   | exact laws_eqTurnS.mono _ _ _
   | exact laws_heldTurnS.mono _ _ _
   | exact laws_markTurnS.mono _ _ _
   | exact laws_szTurnS.mono _ _ _
   | exact laws_toTurnS.mono _ _
   | exact spec_TurnsCut.mono _ _ _
   | exact LeO.none _
   | refine LeO.ite ?_ ?_
   | refine LeO.bind ?_ (fun _ => ?_)
theorem laws_FnExactTurnsCut.mono : ∀ a0 a1 k, LeO (laws_FnExactTurnsCut.f k a0 a1) (laws_FnExactTurnsCut.f (k + 1) a0 a1) := by
 intro a0 a1 k
 obtain ⟨ih0, ih1, ih2⟩ := laws_FnExactTurnsCut.mono_l k
 unfold laws_FnExactTurnsCut.f
 repeat' first
   | (with_reducible exact ih0 _ _ _ _ _ _ _ _)
   | (with_reducible exact ih1 _ _ _ _ _ _)
   | (with_reducible exact ih2 _ _ _)
   | (with_reducible exact impl_TurnsCut.mono _ _ _)
   | (with_reducible exact laws_eqTurnS.mono _ _ _)
   | (with_reducible exact laws_heldTurnS.mono _ _ _)
   | (with_reducible exact laws_markTurnS.mono _ _ _)
   | (with_reducible exact laws_szTurnS.mono _ _ _)
   | (with_reducible exact laws_toTurnS.mono _ _)
   | (with_reducible exact spec_TurnsCut.mono _ _ _)
   | (with_reducible exact LeO.refl _)
   | (with_reducible exact LeO.none _)
   | (with_reducible refine LeO.ite ?_ ?_)
   | (with_reducible refine LeO.bind ?_ (fun _ => ?_))
   | exact ih0 _ _ _ _ _ _ _ _
   | exact ih1 _ _ _ _ _ _
   | exact ih2 _ _ _
   | exact impl_TurnsCut.mono _ _ _
   | exact laws_eqTurnS.mono _ _ _
   | exact laws_heldTurnS.mono _ _ _
   | exact laws_markTurnS.mono _ _ _
   | exact laws_szTurnS.mono _ _ _
   | exact laws_toTurnS.mono _ _
   | exact spec_TurnsCut.mono _ _ _
   | exact LeO.none _
   | refine LeO.ite ?_ ?_
   | refine LeO.bind ?_ (fun _ => ?_)
set_option maxHeartbeats 8000000 in
set_option maxRecDepth 100000 in
theorem laws_FnExactTurnsCut.calls (k : Nat) (A0 : Option Addr) (c0 : Nat) (l0 : List (S115)) (a1 : Int) (r : Bool) (w : World) (hr0 : Kd.C k115 w A0 l0.length l0) (hc0 : l0.length ≤ c0) (h : laws_FnExactTurnsCut.f k l0 a1 = some r) :
  Calls Try.prog 7 #[.slice A0 l0.length c0, .int .i64 a1] w fun e w' => e = .returned (.bool r) ∧ Below w.heap.size w w' := by
 have HR0 := A_ hr0
 have HC0 := A_ hc0
 clear hr0 hc0
 have HB := A_ (Below.refl w.heap.size w)
 have HS := A_ (Nat.le_refl w.heap.size)
 have HE := A_ (Nat.le_refl w.heap.size)
 have H : ((laws_szTurnS.f k l0 1048576).bind fun t391 => (if t391 < 0 then (some true) else ((laws_toTurnS.f k l0).bind fun t392 => ((spec_TurnsCut.f k t392 a1).bind fun bt395 => ((laws_toTurnS.f k l0).bind fun t399 => ((impl_TurnsCut.f k t399 a1).bind fun bt402 => ((laws_eqTurnS.f k bt402.1 bt395.1).bind fun t406 => (if t406 = true then (laws_FnExactTurnsCut.j0 k l0 a1 bt395.1 bt395.2 t399 bt402.1 bt402.2 (bt402.2 != bt395.2)) else (laws_FnExactTurnsCut.j0 k l0 a1 bt395.1 bt395.2 t399 bt402.1 bt402.2 true))))))))) = some r := h
 clear h
 replace H := Option.bind_eq_some_iff.mp H
 obtain ⟨t391, A30, H⟩ := H
 replace H : (if t391 < 0 then (some true) else ((laws_toTurnS.f k l0).bind fun t392 => ((spec_TurnsCut.f k t392 a1).bind fun bt395 => ((laws_toTurnS.f k l0).bind fun t399 => ((impl_TurnsCut.f k t399 a1).bind fun bt402 => ((laws_eqTurnS.f k bt402.1 bt395.1).bind fun t406 => (if t406 = true then (laws_FnExactTurnsCut.j0 k l0 a1 bt395.1 bt395.2 t399 bt402.1 bt402.2 (bt402.2 != bt395.2)) else (laws_FnExactTurnsCut.j0 k l0 a1 bt395.1 bt395.2 t399 bt402.1 bt402.2 true)))))))) = some r := H
 have A3 := A_ A30
 clear A30
 by_cases c4 : t391 < 0
 ·rw [if_pos c4] at H
  have c4b0 : decide (t391 < 0) = true := decide_eq_true c4
  clear c4
  obtain rfl := Option.some.inj H
  go_enter Try.func7, Try.ntmps7
  go_wp2_with (first | ((with_reducible refine gate_callee (f := 38) rfl ?_); refine goesL_ (some 18) rfl rfl Try.func38 (by kernel_rfl) rfl #[.slice A0 l0.length c0, .int .i64 1048576] rfl Z3 ?_; (with_reducible refine (laws_szTurnS.calls k _ _ l0 1048576 t391 _ ?side1 ?side2 A3.out).mono ?_); (case side1 => exact Z42 HR0.out); (case side2 => exact HC0.out); rintro e w5 ⟨rfl, hb⟩; refine ⟨_, rfl, ?_⟩; have n0_ := A_ (below_step Z0 hb); have ne_ := A_ (sz_below Z14 hb); clear HE; have HE := ne_; clear ne_; clear HB; have HB := n0_; clear n0_; (try clear hb); (try clear hb2); (try clear hk); (try clear hi)))
  go_ret
  exact ⟨Z4, Z0⟩
 ·rw [if_neg c4] at H
  have c4b0 : decide (t391 < 0) = false := decide_eq_false c4
  clear c4
  replace H := Option.bind_eq_some_iff.mp H
  obtain ⟨t392, A60, H⟩ := H
  replace H : ((spec_TurnsCut.f k t392 a1).bind fun bt395 => ((laws_toTurnS.f k l0).bind fun t399 => ((impl_TurnsCut.f k t399 a1).bind fun bt402 => ((laws_eqTurnS.f k bt402.1 bt395.1).bind fun t406 => (if t406 = true then (laws_FnExactTurnsCut.j0 k l0 a1 bt395.1 bt395.2 t399 bt402.1 bt402.2 (bt402.2 != bt395.2)) else (laws_FnExactTurnsCut.j0 k l0 a1 bt395.1 bt395.2 t399 bt402.1 bt402.2 true)))))) = some r := H
  have A6 := A_ A60
  clear A60
  replace H := Option.bind_eq_some_iff.mp H
  obtain ⟨⟨t395, t396⟩, A70, H⟩ := H
  replace H : ((laws_toTurnS.f k l0).bind fun t399 => ((impl_TurnsCut.f k t399 a1).bind fun bt402 => ((laws_eqTurnS.f k bt402.1 t395).bind fun t406 => (if t406 = true then (laws_FnExactTurnsCut.j0 k l0 a1 t395 t396 t399 bt402.1 bt402.2 (bt402.2 != t396)) else (laws_FnExactTurnsCut.j0 k l0 a1 t395 t396 t399 bt402.1 bt402.2 true))))) = some r := H
  have A7 := A_ A70
  clear A70
  replace H := Option.bind_eq_some_iff.mp H
  obtain ⟨t399, A80, H⟩ := H
  replace H : ((impl_TurnsCut.f k t399 a1).bind fun bt402 => ((laws_eqTurnS.f k bt402.1 t395).bind fun t406 => (if t406 = true then (laws_FnExactTurnsCut.j0 k l0 a1 t395 t396 t399 bt402.1 bt402.2 (bt402.2 != t396)) else (laws_FnExactTurnsCut.j0 k l0 a1 t395 t396 t399 bt402.1 bt402.2 true)))) = some r := H
  have A8 := A_ A80
  clear A80
  replace H := Option.bind_eq_some_iff.mp H
  obtain ⟨⟨t402, t403⟩, A90, H⟩ := H
  replace H : ((laws_eqTurnS.f k t402 t395).bind fun t406 => (if t406 = true then (laws_FnExactTurnsCut.j0 k l0 a1 t395 t396 t399 t402 t403 (t403 != t396)) else (laws_FnExactTurnsCut.j0 k l0 a1 t395 t396 t399 t402 t403 true))) = some r := H
  have A9 := A_ A90
  clear A90
  have HC10 := A_ H
  clear H
  go_enter Try.func7, Try.ntmps7
  go_upto_region 8 with (first | ((with_reducible refine gate_callee (f := 38) rfl ?_); refine goesL_ (some 18) rfl rfl Try.func38 (by kernel_rfl) rfl #[.slice A0 l0.length c0, .int .i64 1048576] rfl Z3 ?_; (with_reducible refine (laws_szTurnS.calls k _ _ l0 1048576 t391 _ ?side1 ?side2 A3.out).mono ?_); (case side1 => exact Z42 HR0.out); (case side2 => exact HC0.out); rintro e w11 ⟨rfl, hb⟩; refine ⟨_, rfl, ?_⟩; have n0_ := A_ (below_step Z0 hb); have ne_ := A_ (sz_below Z14 hb); clear HE; have HE := ne_; clear ne_; clear HB; have HB := n0_; clear n0_; (try clear hb); (try clear hb2); (try clear hk); (try clear hi)) | ((with_reducible refine gate_callee (f := 40) rfl ?_); refine goesL_ (some 23) rfl rfl Try.func40 (by kernel_rfl) rfl #[.slice A0 l0.length c0] rfl Z3 ?_; (with_reducible refine (laws_toTurnS.calls k _ _ l0 t392 _ ?side1 ?side2 A6.out).mono ?_); (case side1 => exact Z6 HR0.out); (case side2 => exact HC0.out); rintro e w12 ⟨v393, rfl, ho0, hb⟩; refine ⟨_, rfl, ?_⟩; obtain ⟨wa394, wb394, nw_, ns1_, ns2_, ns3_⟩ := Kd.S_win ho0 (below_size Z0) Z14 hb.size; have n0_ := A_ (nw_); have nS_ := A_ (And.intro HS.out (And.intro ns1_ ns2_)); have ne_ := A_ (ns3_); clear nw_ ns1_ ns2_ ns3_; have n1_ := A_ (below_step Z0 hb); clear HS; have HS := nS_; clear nS_; clear HE; have HE := ne_; clear ne_; clear HB; have HO394 := n0_; have HB := n1_; clear n0_ n1_; (try clear hb); (try clear hb2); (try clear hk); (try clear hi); (try clear ho0); obtain ⟨Ao13, co13, eo13⟩ := Kd.S_slice HO394.out; subst eo13) | ((with_reducible refine gate_callee (f := 39) rfl ?_); refine goesL_ (some 25) rfl rfl Try.func39 (by kernel_rfl) rfl #[.slice Ao13 t392.length co13, .int .i64 a1] rfl Z3 ?_; (with_reducible refine (spec_TurnsCut.calls k _ _ t392 a1 t395 t396 _ ?side1 ?side2 A7.out).mono ?_); (case side1 => exact Z13 HO394.out); (case side2 => exact (Kd.S_reads' HO394.out).2.1); rintro e w14 ⟨v397, rfl, ho0, hb⟩; refine ⟨_, rfl, ?_⟩; obtain ⟨wa398, wb398, nw_, ns1_, ns2_, ns3_⟩ := Kd.S_win ho0 (below_size Z0) Z14 hb.size; have n1_ := A_ (nw_); have nS_ := A_ (And.intro HS.out (And.intro ns1_ ns2_)); have ne_ := A_ (ns3_); clear nw_ ns1_ ns2_ ns3_; have n0_ := A_ (Kd.S_below (Z9 HO394.out) hb); have n2_ := A_ (below_step Z0 hb); clear HS; have HS := nS_; clear nS_; clear HE; have HE := ne_; clear ne_; clear HO394; clear HB; have HO394 := n0_; have HO398 := n1_; have HB := n2_; clear n0_ n1_ n2_; (try clear hb); (try clear hb2); (try clear hk); (try clear hi); (try clear ho0)) | ((with_reducible refine gate_callee (f := 40) rfl ?_); refine goesL_ (some 29) rfl rfl Try.func40 (by kernel_rfl) rfl #[.slice A0 l0.length c0] rfl Z3 ?_; (with_reducible refine (laws_toTurnS.calls k _ _ l0 t399 _ ?side1 ?side2 A8.out).mono ?_); (case side1 => exact Z6 HR0.out); (case side2 => exact HC0.out); rintro e w15 ⟨v400, rfl, ho0, hb⟩; refine ⟨_, rfl, ?_⟩; obtain ⟨wa401, wb401, nw_, ns1_, ns2_, ns3_⟩ := Kd.S_win ho0 (below_size Z0) Z14 hb.size; have n2_ := A_ (nw_); have nS_ := A_ (And.intro HS.out (And.intro ns1_ ns2_)); have ne_ := A_ (ns3_); clear nw_ ns1_ ns2_ ns3_; have n0_ := A_ (Kd.S_below (Z9 HO394.out) hb); have n1_ := A_ (Kd.S_below (Z9 HO398.out) hb); have n3_ := A_ (below_step Z0 hb); clear HS; have HS := nS_; clear nS_; clear HE; have HE := ne_; clear ne_; clear HO394; clear HO398; clear HB; have HO394 := n0_; have HO398 := n1_; have HO401 := n2_; have HB := n3_; clear n0_ n1_ n2_ n3_; (try clear hb); (try clear hb2); (try clear hk); (try clear hi); (try clear ho0); obtain ⟨Ao16, co16, eo16⟩ := Kd.S_slice HO401.out; subst eo16) | ((with_reducible refine gate_callee (f := 41) rfl ?_); refine goesL_ (some 33) rfl rfl Try.func41 (by kernel_rfl) rfl #[.slice Ao16 t399.length co16, .int .i64 a1] rfl Z3 ?_; (with_reducible refine (impl_TurnsCut.calls k _ _ t399 a1 t402 t403 _ ?side1 ?side2 A9.out).mono ?_); (case side1 => exact Z13 HO401.out); (case side2 => exact (Kd.S_reads' HO401.out).2.1); rintro e w17 ⟨v404, rfl, ho0, hb⟩; refine ⟨_, rfl, ?_⟩; obtain ⟨wa405, wb405, nw_, ns1_, ns2_, ns3_⟩ := Kd.S_win ho0 (below_size Z0) Z14 hb.size; have n3_ := A_ (nw_); have nS_ := A_ (And.intro HS.out (And.intro ns1_ ns2_)); have ne_ := A_ (ns3_); clear nw_ ns1_ ns2_ ns3_; have n0_ := A_ (Kd.S_below (Z9 HO394.out) hb); have n1_ := A_ (Kd.S_below (Z9 HO398.out) hb); have n2_ := A_ (Kd.S_below (Z9 HO401.out) hb); have n4_ := A_ (below_step Z0 hb); clear HS; have HS := nS_; clear nS_; clear HE; have HE := ne_; clear ne_; clear HO394; clear HO398; clear HO401; clear HB; have HO394 := n0_; have HO398 := n1_; have HO401 := n2_; have HO405 := n3_; have HB := n4_; clear n0_ n1_ n2_ n3_ n4_; (try clear hb); (try clear hb2); (try clear hk); (try clear hi); (try clear ho0)))
  (try simp only [Act.put, List.setIfInBounds_toArray, List.set_cons_zero, List.set_cons_succ])
  go_cut [44] (fun v44 wc => ∃ (kq : Nat) (x44_9 : Bool) (wa_6 wb_6 wa_8 wb_8 wa_9 wb_9 : Nat), v44 = .bool x44_9 ∧ Aside0 (laws_FnExactTurnsCut.j0 kq l0 a1 t395 t396 t399 t402 t403 x44_9 = some r) ∧ Aside0 (kq ≤ k) ∧ Aside0 (Kd.S k122 122 wc w.heap.size (Win wa_6 wb_6) v397 t395) ∧ Aside0 (Kd.S k122 122 wc w.heap.size (Win wa_8 wb_8) (.slice Ao16 t399.length co16) t399) ∧ Aside0 (Kd.S k122 122 wc w.heap.size (Win wa_9 wb_9) v404 t402) ∧ Aside0 (Below w.heap.size w wc) ∧ Aside0 (w.heap.size ≤ wa_6 ∧ wa_6 ≤ wb_6 ∧ wa_8 ≤ wb_8 ∧ wa_9 ≤ wb_9 ∧ wb_6 ≤ wa_8 ∧ wb_8 ≤ wa_9) ∧ Aside0 (wb_9 ≤ wc.heap.size))
  case first =>
   have H := HC10.out
   clear HC10
   replace H := Option.bind_eq_some_iff.mp H
   obtain ⟨t406, A180, H⟩ := H
   replace H : (if t406 = true then (laws_FnExactTurnsCut.j0 k l0 a1 t395 t396 t399 t402 t403 (t403 != t396)) else (laws_FnExactTurnsCut.j0 k l0 a1 t395 t396 t399 t402 t403 true)) = some r := H
   have A18 := A_ A180
   clear A180
   by_cases c19 : t406 = true
   ·subst c19
    have H1 : (laws_FnExactTurnsCut.j0 k l0 a1 t395 t396 t399 t402 t403 (t403 != t396)) = some r := by rw [if_pos rfl] at H; exact H
    clear H
    have H := H1
    clear H1
    have H' := A_ H
    clear H
    obtain ⟨Ao20, co20, eo20⟩ := Kd.S_slice HO405.out
    subst eo20
    obtain ⟨Ao21, co21, eo21⟩ := Kd.S_slice HO398.out
    subst eo21
    go_wp2_with (first | ((with_reducible refine gate_callee (f := 42) rfl ?_); refine goesL_ (some 38) rfl rfl Try.func42 (by kernel_rfl) rfl #[.slice Ao20 t402.length co20, .slice Ao21 t395.length co21] rfl Z3 ?_; (with_reducible refine (laws_eqTurnS.calls k _ _ t402 _ _ t395 true _ ?side1 ?side2 ?side3 ?side4 A18.out).mono ?_); (case side1 => exact Z13 HO405.out); (case side2 => exact (Kd.S_reads' HO405.out).2.1); (case side3 => exact Z13 HO398.out); (case side4 => exact (Kd.S_reads' HO398.out).2.1); rintro e w22 ⟨rfl, hb⟩; refine ⟨_, rfl, ?_⟩; have n0_ := A_ (Kd.S_below (Z9 HO394.out) hb); have n1_ := A_ (Kd.S_below (Z9 HO398.out) hb); have n2_ := A_ (Kd.S_below (Z9 HO401.out) hb); have n3_ := A_ (Kd.S_below (Z9 HO405.out) hb); have n4_ := A_ (below_step Z0 hb); have ne_ := A_ (sz_below Z14 hb); clear HE; have HE := ne_; clear ne_; clear HO394; clear HO398; clear HO401; clear HO405; clear HB; have HO394 := n0_; have HO398 := n1_; have HO401 := n2_; have HO405 := n3_; have HB := n4_; clear n0_ n1_ n2_ n3_ n4_; (try clear hb); (try clear hb2); (try clear hk); (try clear hi)))
    go_meet
    case rel => exact ⟨_, ((t403 != t396)), wa398, wb398, wa401, wb401, wa405, wb405, Z12, H', ⟨by first | omega | exact Nat.le_refl _⟩, ⟨Z9 HO398.out⟩, ⟨Z9 HO401.out⟩, ⟨Z9 HO405.out⟩, ⟨Z0⟩, ⟨by have hs_ := HS.out; omega⟩, ⟨by have hs_ := HS.out; refine Nat.le_trans ?_ Z14; omega⟩⟩
   ·replace c19 := Bool.eq_false_iff.mpr c19
    subst c19
    have H1 : (laws_FnExactTurnsCut.j0 k l0 a1 t395 t396 t399 t402 t403 true) = some r := by rw [if_neg (show ¬ (false = true) by decide)] at H; exact H
    clear H
    have H := H1
    clear H1
    have H' := A_ H
    clear H
    obtain ⟨Ao23, co23, eo23⟩ := Kd.S_slice HO405.out
    subst eo23
    obtain ⟨Ao24, co24, eo24⟩ := Kd.S_slice HO398.out
    subst eo24
    go_wp2_with (first | ((with_reducible refine gate_callee (f := 42) rfl ?_); refine goesL_ (some 38) rfl rfl Try.func42 (by kernel_rfl) rfl #[.slice Ao23 t402.length co23, .slice Ao24 t395.length co24] rfl Z3 ?_; (with_reducible refine (laws_eqTurnS.calls k _ _ t402 _ _ t395 false _ ?side1 ?side2 ?side3 ?side4 A18.out).mono ?_); (case side1 => exact Z13 HO405.out); (case side2 => exact (Kd.S_reads' HO405.out).2.1); (case side3 => exact Z13 HO398.out); (case side4 => exact (Kd.S_reads' HO398.out).2.1); rintro e w25 ⟨rfl, hb⟩; refine ⟨_, rfl, ?_⟩; have n0_ := A_ (Kd.S_below (Z9 HO394.out) hb); have n1_ := A_ (Kd.S_below (Z9 HO398.out) hb); have n2_ := A_ (Kd.S_below (Z9 HO401.out) hb); have n3_ := A_ (Kd.S_below (Z9 HO405.out) hb); have n4_ := A_ (below_step Z0 hb); have ne_ := A_ (sz_below Z14 hb); clear HE; have HE := ne_; clear ne_; clear HO394; clear HO398; clear HO401; clear HO405; clear HB; have HO394 := n0_; have HO398 := n1_; have HO401 := n2_; have HO405 := n3_; have HB := n4_; clear n0_ n1_ n2_ n3_ n4_; (try clear hb); (try clear hb2); (try clear hk); (try clear hi)))
    go_meet
    case rel => exact ⟨_, (true), wa398, wb398, wa401, wb401, wa405, wb405, Z12, H', ⟨by first | omega | exact Nat.le_refl _⟩, ⟨Z9 HO398.out⟩, ⟨Z9 HO401.out⟩, ⟨Z9 HO405.out⟩, ⟨Z0⟩, ⟨by have hs_ := HS.out; omega⟩, ⟨by have hs_ := HS.out; refine Nat.le_trans ?_ Z14; omega⟩⟩
  case rest =>
   clear HC10
   try clear c1
   try clear p2
   try clear c3
   try clear c4
   try clear c4b0
   try clear c7
   try clear c19
   obtain ⟨kq, x44_9, wa_6, wb_6, wa_8, wb_8, wa_9, wb_9, rfl, HA, HJ9, HO_6, HO_8, HO_9, HB, HS, HE⟩ := hcut
   cases kq with
   | zero => exact absurd HA.out (by simp [laws_FnExactTurnsCut.j0])
   | succ kj9 =>
    have H := HA.out
    clear HA
    simp only [laws_FnExactTurnsCut.j0] at H
    by_cases c26 : x44_9 = true
    ·subst c26
     have H1 : (some false) = some r := by rw [if_pos rfl] at H; exact H
     clear H
     have H := H1
     clear H1
     obtain rfl := Option.some.inj H
     go_wp2
     go_ret
     exact ⟨Z4, Z0⟩
    ·replace c26 := Bool.eq_false_iff.mpr c26
     subst c26
     have H1 : ((laws_toTurnS.f kj9 l0).bind fun t407 => ((laws_eqTurnS.f kj9 t399 t407).bind fun t410 => (if t410 = true then ((laws_markTurnS.f kj9 t399 1).bind fun bt411 => (if bt411.1 < 0 then (laws_FnExactTurnsCut.j1 kj9 l0 a1 t395 t396 t402 true) else ((laws_eqTurnS.f kj9 t402 t395).bind fun t413 => (if t413 = true then (laws_FnExactTurnsCut.j1 kj9 l0 a1 t395 t396 t402 (t403 != t396)) else (laws_FnExactTurnsCut.j1 kj9 l0 a1 t395 t396 t402 true))))) else (some false)))) = some r := by rw [if_neg (show ¬ (false = true) by decide)] at H; exact H
     clear H
     have H := H1
     clear H1
     replace H := Option.bind_eq_some_iff.mp H
     obtain ⟨t407, A270, H⟩ := H
     replace H : ((laws_eqTurnS.f kj9 t399 t407).bind fun t410 => (if t410 = true then ((laws_markTurnS.f kj9 t399 1).bind fun bt411 => (if bt411.1 < 0 then (laws_FnExactTurnsCut.j1 kj9 l0 a1 t395 t396 t402 true) else ((laws_eqTurnS.f kj9 t402 t395).bind fun t413 => (if t413 = true then (laws_FnExactTurnsCut.j1 kj9 l0 a1 t395 t396 t402 (t403 != t396)) else (laws_FnExactTurnsCut.j1 kj9 l0 a1 t395 t396 t402 true))))) else (some false))) = some r := H
     have A27 := A_ A270
     clear A270
     replace H := Option.bind_eq_some_iff.mp H
     obtain ⟨t410, A280, H⟩ := H
     replace H : (if t410 = true then ((laws_markTurnS.f kj9 t399 1).bind fun bt411 => (if bt411.1 < 0 then (laws_FnExactTurnsCut.j1 kj9 l0 a1 t395 t396 t402 true) else ((laws_eqTurnS.f kj9 t402 t395).bind fun t413 => (if t413 = true then (laws_FnExactTurnsCut.j1 kj9 l0 a1 t395 t396 t402 (t403 != t396)) else (laws_FnExactTurnsCut.j1 kj9 l0 a1 t395 t396 t402 true))))) else (some false)) = some r := H
     have A28 := A_ A280
     clear A280
     by_cases c29 : t410 = true
     ·subst c29
      have H1 : ((laws_markTurnS.f kj9 t399 1).bind fun bt411 => (if bt411.1 < 0 then (laws_FnExactTurnsCut.j1 kj9 l0 a1 t395 t396 t402 true) else ((laws_eqTurnS.f kj9 t402 t395).bind fun t413 => (if t413 = true then (laws_FnExactTurnsCut.j1 kj9 l0 a1 t395 t396 t402 (t403 != t396)) else (laws_FnExactTurnsCut.j1 kj9 l0 a1 t395 t396 t402 true))))) = some r := by rw [if_pos rfl] at H; exact H
      clear H
      have H := H1
      clear H1
      replace H := Option.bind_eq_some_iff.mp H
      obtain ⟨⟨t411, t412⟩, A300, H⟩ := H
      replace H : (if t411 < 0 then (laws_FnExactTurnsCut.j1 kj9 l0 a1 t395 t396 t402 true) else ((laws_eqTurnS.f kj9 t402 t395).bind fun t413 => (if t413 = true then (laws_FnExactTurnsCut.j1 kj9 l0 a1 t395 t396 t402 (t403 != t396)) else (laws_FnExactTurnsCut.j1 kj9 l0 a1 t395 t396 t402 true)))) = some r := H
      have A30 := A_ A300
      clear A300
      have HC31 := A_ H
      clear H
      go_upto_region 14 with (first | ((with_reducible refine gate_callee (f := 40) rfl ?_); refine goesL_ (some 47) rfl rfl Try.func40 (by kernel_rfl) rfl #[.slice A0 l0.length c0] rfl Z3 ?_; (with_reducible refine (laws_toTurnS.calls kj9 _ _ l0 t407 _ ?side1 ?side2 A27.out).mono ?_); (case side1 => exact Z6 HR0.out); (case side2 => exact HC0.out); rintro e w32 ⟨v408, rfl, ho0, hb⟩; refine ⟨_, rfl, ?_⟩; obtain ⟨wa409, wb409, nw_, ns1_, ns2_, ns3_⟩ := Kd.S_win ho0 (below_size Z0) Z14 hb.size; have n3_ := A_ (nw_); have nS_ := A_ (And.intro HS.out (And.intro ns1_ ns2_)); have ne_ := A_ (ns3_); clear nw_ ns1_ ns2_ ns3_; have n0_ := A_ (Kd.S_below (Z9 HO_6.out) hb); have n1_ := A_ (Kd.S_below (Z9 HO_8.out) hb); have n2_ := A_ (Kd.S_below (Z9 HO_9.out) hb); have n4_ := A_ (below_step Z0 hb); clear HS; have HS := nS_; clear nS_; clear HE; have HE := ne_; clear ne_; clear HO_6; clear HO_8; clear HO_9; clear HB; have HO_6 := n0_; have HO_8 := n1_; have HO_9 := n2_; have HO409 := n3_; have HB := n4_; clear n0_ n1_ n2_ n3_ n4_; (try clear hb); (try clear hb2); (try clear hk); (try clear hi); (try clear ho0); obtain ⟨Ao33, co33, eo33⟩ := Kd.S_slice HO409.out; subst eo33) | ((with_reducible refine gate_callee (f := 42) rfl ?_); refine goesL_ (some 48) rfl rfl Try.func42 (by kernel_rfl) rfl #[.slice Ao16 t399.length co16, .slice Ao33 t407.length co33] rfl Z3 ?_; (with_reducible refine (laws_eqTurnS.calls kj9 _ _ t399 _ _ t407 true _ ?side1 ?side2 ?side3 ?side4 A28.out).mono ?_); (case side1 => exact Z13 HO_8.out); (case side2 => exact (Kd.S_reads' HO_8.out).2.1); (case side3 => exact Z13 HO409.out); (case side4 => exact (Kd.S_reads' HO409.out).2.1); rintro e w34 ⟨rfl, hb⟩; refine ⟨_, rfl, ?_⟩; have n0_ := A_ (Kd.S_below (Z9 HO_6.out) hb); have n1_ := A_ (Kd.S_below (Z9 HO_8.out) hb); have n2_ := A_ (Kd.S_below (Z9 HO_9.out) hb); have n3_ := A_ (Kd.S_below (Z9 HO409.out) hb); have n4_ := A_ (below_step Z0 hb); have ne_ := A_ (sz_below Z14 hb); clear HE; have HE := ne_; clear ne_; clear HO_6; clear HO_8; clear HO_9; clear HO409; clear HB; have HO_6 := n0_; have HO_8 := n1_; have HO_9 := n2_; have HO409 := n3_; have HB := n4_; clear n0_ n1_ n2_ n3_ n4_; (try clear hb); (try clear hb2); (try clear hk); (try clear hi)) | ((with_reducible refine gate_callee (f := 43) rfl ?_); refine goesL_ (some 52) rfl rfl Try.func43 (by kernel_rfl) rfl #[.slice Ao16 t399.length co16, .int .i64 1] rfl Z3 ?_; (with_reducible refine (laws_markTurnS.calls kj9 (Win wa_8 wb_8) (.slice Ao16 t399.length co16) t399 1 t411 t412 w _ ?side1 ?side2 A30.out).mono ?_); (case side1 => exact Z0); (case side2 => exact (Z9 HO_8.out)); rintro e w35 ⟨rfl, hy0, hb, hkp⟩; refine ⟨_, rfl, ?_⟩; have hs_ := HS.out; have n0_ := A_ (Kd.S_winK (Z9 HO_6.out) hkp (by omega)); have n1_ := A_ (hy0); have n2_ := A_ (Kd.S_winK (Z9 HO_9.out) hkp (by omega)); have n3_ := A_ (Kd.S_winK (Z9 HO409.out) hkp (by omega)); have n4_ := A_ (hb); have ne_ := A_ (sz_kept Z14 hkp); clear hs_; clear HE; have HE := ne_; clear ne_; clear HO_6; clear HO_8; clear HO_9; clear HO409; clear HB; have HO_6 := n0_; have HO_8 := n1_; have HO_9 := n2_; have HO409 := n3_; have HB := n4_; clear n0_ n1_ n2_ n3_ n4_; (try clear hb); (try clear hkp); (try clear hy0)))
      (try simp only [Act.put, List.setIfInBounds_toArray, List.set_cons_zero, List.set_cons_succ])
      go_cut [65] (fun v65 wc => ∃ (kq : Nat) (x65_30 : Bool) (wa_6 wb_6 wa_9 wb_9 : Nat), v65 = .bool x65_30 ∧ Aside0 (laws_FnExactTurnsCut.j1 kq l0 a1 t395 t396 t402 x65_30 = some r) ∧ Aside0 (kq ≤ kj9) ∧ Aside0 (Kd.S k122 122 wc w.heap.size (Win wa_6 wb_6) v397 t395) ∧ Aside0 (Kd.S k122 122 wc w.heap.size (Win wa_9 wb_9) v404 t402) ∧ Aside0 (Below w.heap.size w wc) ∧ Aside0 (w.heap.size ≤ wa_6 ∧ wa_6 ≤ wb_6 ∧ wa_9 ≤ wb_9 ∧ wb_6 ≤ wa_9) ∧ Aside0 (wb_9 ≤ wc.heap.size))
      case first =>
       have H := HC31.out
       clear HC31
       by_cases c36 : t411 < 0
       ·rw [if_pos c36] at H
        have c36b0 : decide (t411 < 0) = true := decide_eq_true c36
        clear c36
        (first | rw [c36b0] | (simp only [i64_w, i32_w]; rw [c36b0]) | skip)
        have H' := A_ H
        clear H
        go_wp2
        go_meet
        case rel => exact ⟨_, (true), wa_6, wb_6, wa_9, wb_9, Z12, H', ⟨by have := HJ9.out; first | omega | exact Nat.le_refl _⟩, ⟨Z9 HO_6.out⟩, ⟨Z9 HO_9.out⟩, ⟨Z0⟩, ⟨by have hs_ := HS.out; omega⟩, ⟨by have hs_ := HS.out; refine Nat.le_trans ?_ Z14; omega⟩⟩
       ·rw [if_neg c36] at H
        have c36b0 : decide (t411 < 0) = false := decide_eq_false c36
        clear c36
        (first | rw [c36b0] | (simp only [i64_w, i32_w]; rw [c36b0]) | skip)
        replace H := Option.bind_eq_some_iff.mp H
        obtain ⟨t413, A370, H⟩ := H
        replace H : (if t413 = true then (laws_FnExactTurnsCut.j1 kj9 l0 a1 t395 t396 t402 (t403 != t396)) else (laws_FnExactTurnsCut.j1 kj9 l0 a1 t395 t396 t402 true)) = some r := H
        have A37 := A_ A370
        clear A370
        by_cases c38 : t413 = true
        ·subst c38
         have H1 : (laws_FnExactTurnsCut.j1 kj9 l0 a1 t395 t396 t402 (t403 != t396)) = some r := by rw [if_pos rfl] at H; exact H
         clear H
         have H := H1
         clear H1
         have H' := A_ H
         clear H
         obtain ⟨Ao39, co39, eo39⟩ := Kd.S_slice HO_9.out
         subst eo39
         obtain ⟨Ao40, co40, eo40⟩ := Kd.S_slice HO_6.out
         subst eo40
         go_wp2_with (first | (go_at_call 42; (with_reducible refine (laws_eqTurnS.calls kj9 _ _ t402 _ _ t395 true _ ?side1 ?side2 ?side3 ?side4 A37.out).mono ?_); (case side1 => exact Z13 HO_9.out); (case side2 => exact (Kd.S_reads' HO_9.out).2.1); (case side3 => exact Z13 HO_6.out); (case side4 => exact (Kd.S_reads' HO_6.out).2.1); rintro e w41 ⟨rfl, hb⟩; have n0_ := A_ (Kd.S_below (Z9 HO_6.out) hb); have n1_ := A_ (Kd.S_below (Z9 HO_8.out) hb); have n2_ := A_ (Kd.S_below (Z9 HO_9.out) hb); have n3_ := A_ (Kd.S_below (Z9 HO409.out) hb); have n4_ := A_ (below_step Z0 hb); have ne_ := A_ (sz_below Z14 hb); clear HE; have HE := ne_; clear ne_; clear HO_6; clear HO_8; clear HO_9; clear HO409; clear HB; have HO_6 := n0_; have HO_8 := n1_; have HO_9 := n2_; have HO409 := n3_; have HB := n4_; clear n0_ n1_ n2_ n3_ n4_; (try clear hb); (try clear hb2); (try clear hk); (try clear hi)))
         go_meet
         case rel => exact ⟨_, ((t403 != t396)), wa_6, wb_6, wa_9, wb_9, Z12, H', ⟨by have := HJ9.out; first | omega | exact Nat.le_refl _⟩, ⟨Z9 HO_6.out⟩, ⟨Z9 HO_9.out⟩, ⟨Z0⟩, ⟨by have hs_ := HS.out; omega⟩, ⟨by have hs_ := HS.out; refine Nat.le_trans ?_ Z14; omega⟩⟩
        ·replace c38 := Bool.eq_false_iff.mpr c38
         subst c38
         have H1 : (laws_FnExactTurnsCut.j1 kj9 l0 a1 t395 t396 t402 true) = some r := by rw [if_neg (show ¬ (false = true) by decide)] at H; exact H
         clear H
         have H := H1
         clear H1
         have H' := A_ H
         clear H
         obtain ⟨Ao42, co42, eo42⟩ := Kd.S_slice HO_9.out
         subst eo42
         obtain ⟨Ao43, co43, eo43⟩ := Kd.S_slice HO_6.out
         subst eo43
         go_wp2_with (first | (go_at_call 42; (with_reducible refine (laws_eqTurnS.calls kj9 _ _ t402 _ _ t395 false _ ?side1 ?side2 ?side3 ?side4 A37.out).mono ?_); (case side1 => exact Z13 HO_9.out); (case side2 => exact (Kd.S_reads' HO_9.out).2.1); (case side3 => exact Z13 HO_6.out); (case side4 => exact (Kd.S_reads' HO_6.out).2.1); rintro e w44 ⟨rfl, hb⟩; have n0_ := A_ (Kd.S_below (Z9 HO_6.out) hb); have n1_ := A_ (Kd.S_below (Z9 HO_8.out) hb); have n2_ := A_ (Kd.S_below (Z9 HO_9.out) hb); have n3_ := A_ (Kd.S_below (Z9 HO409.out) hb); have n4_ := A_ (below_step Z0 hb); have ne_ := A_ (sz_below Z14 hb); clear HE; have HE := ne_; clear ne_; clear HO_6; clear HO_8; clear HO_9; clear HO409; clear HB; have HO_6 := n0_; have HO_8 := n1_; have HO_9 := n2_; have HO409 := n3_; have HB := n4_; clear n0_ n1_ n2_ n3_ n4_; (try clear hb); (try clear hb2); (try clear hk); (try clear hi)))
         go_meet
         case rel => exact ⟨_, (true), wa_6, wb_6, wa_9, wb_9, Z12, H', ⟨by have := HJ9.out; first | omega | exact Nat.le_refl _⟩, ⟨Z9 HO_6.out⟩, ⟨Z9 HO_9.out⟩, ⟨Z0⟩, ⟨by have hs_ := HS.out; omega⟩, ⟨by have hs_ := HS.out; refine Nat.le_trans ?_ Z14; omega⟩⟩
      case rest =>
       clear HC31
       try clear c1
       try clear c2
       try clear p2
       try clear c3
       try clear c4
       try clear c4b0
       try clear c7
       try clear c19
       try clear c26
       try clear c29
       try clear c36
       try clear c36b0
       try clear c38
       try clear c39
       try clear c40
       try clear c41
       try clear c42
       try clear c43
       try clear p2
       obtain ⟨kq, x65_30, wa_6, wb_6, wa_9, wb_9, rfl, HA, HJ30, HO_6, HO_9, HB, HS, HE⟩ := hcut
       cases kq with
       | zero => exact absurd HA.out (by simp [laws_FnExactTurnsCut.j1])
       | succ kj30 =>
        have H := HA.out
        clear HA
        simp only [laws_FnExactTurnsCut.j1] at H
        by_cases c45 : x65_30 = true
        ·subst c45
         have H1 : (some false) = some r := by rw [if_pos rfl] at H; exact H
         clear H
         have H := H1
         clear H1
         obtain rfl := Option.some.inj H
         go_wp2
         go_ret
         exact ⟨Z4, Z0⟩
        ·replace c45 := Bool.eq_false_iff.mpr c45
         subst c45
         have H1 : ((laws_markTurnS.f kj30 t402 1).bind fun bt414 => ((laws_heldTurnS.f kj30 bt414.2 1).bind fun t416 => (if t416 < 0 then (some false) else (if t416 = bt414.1 then ((laws_toTurnS.f kj30 l0).bind fun t417 => ((impl_TurnsCut.f kj30 t417 a1).bind fun bt420 => ((laws_eqTurnS.f kj30 bt420.1 t395).bind fun t424 => (if t424 = true then (laws_FnExactTurnsCut.j2 kj30 bt414.2 bt414.1 (bt420.2 != t396)) else (laws_FnExactTurnsCut.j2 kj30 bt414.2 bt414.1 true))))) else (some false))))) = some r := by rw [if_neg (show ¬ (false = true) by decide)] at H; exact H
         clear H
         have H := H1
         clear H1
         replace H := Option.bind_eq_some_iff.mp H
         obtain ⟨⟨t414, t415⟩, A460, H⟩ := H
         replace H : ((laws_heldTurnS.f kj30 t415 1).bind fun t416 => (if t416 < 0 then (some false) else (if t416 = t414 then ((laws_toTurnS.f kj30 l0).bind fun t417 => ((impl_TurnsCut.f kj30 t417 a1).bind fun bt420 => ((laws_eqTurnS.f kj30 bt420.1 t395).bind fun t424 => (if t424 = true then (laws_FnExactTurnsCut.j2 kj30 t415 t414 (bt420.2 != t396)) else (laws_FnExactTurnsCut.j2 kj30 t415 t414 true))))) else (some false)))) = some r := H
         have A46 := A_ A460
         clear A460
         replace H := Option.bind_eq_some_iff.mp H
         obtain ⟨t416, A470, H⟩ := H
         replace H : (if t416 < 0 then (some false) else (if t416 = t414 then ((laws_toTurnS.f kj30 l0).bind fun t417 => ((impl_TurnsCut.f kj30 t417 a1).bind fun bt420 => ((laws_eqTurnS.f kj30 bt420.1 t395).bind fun t424 => (if t424 = true then (laws_FnExactTurnsCut.j2 kj30 t415 t414 (bt420.2 != t396)) else (laws_FnExactTurnsCut.j2 kj30 t415 t414 true))))) else (some false))) = some r := H
         have A47 := A_ A470
         clear A470
         by_cases c48 : t416 < 0
         ·rw [if_pos c48] at H
          have c48b0 : decide (t416 < 0) = true := decide_eq_true c48
          clear c48
          obtain rfl := Option.some.inj H
          obtain ⟨Ao49, co49, eo49⟩ := Kd.S_slice HO_9.out
          subst eo49
          go_wp2_with (first | ((with_reducible refine gate_callee (f := 43) rfl ?_); refine goesL_ (some 68) rfl rfl Try.func43 (by kernel_rfl) rfl #[.slice Ao49 t402.length co49, .int .i64 1] rfl Z3 ?_; (with_reducible refine (laws_markTurnS.calls kj30 (Win wa_9 wb_9) (.slice Ao49 t402.length co49) t402 1 t414 t415 w _ ?side1 ?side2 A46.out).mono ?_); (case side1 => exact Z0); (case side2 => exact (Z9 HO_9.out)); rintro e w50 ⟨rfl, hy0, hb, hkp⟩; refine ⟨_, rfl, ?_⟩; have hs_ := HS.out; have n0_ := A_ (Kd.S_winK (Z9 HO_6.out) hkp (by omega)); have n1_ := A_ (hy0); have n2_ := A_ (hb); have ne_ := A_ (sz_kept Z14 hkp); clear hs_; clear HE; have HE := ne_; clear ne_; clear HO_6; clear HO_9; clear HB; have HO_6 := n0_; have HO_9 := n1_; have HB := n2_; clear n0_ n1_ n2_; (try clear hb); (try clear hkp); (try clear hy0)) | ((with_reducible refine gate_callee (f := 44) rfl ?_); refine goesL_ (some 71) rfl rfl Try.func44 (by kernel_rfl) rfl #[.slice Ao49 t415.length co49, .int .i64 1] rfl (by (try simp only [List.map_toArray, List.map_cons, List.map_nil]); first | done | (rw [show t415.length = t402.length from (Kd.S_reads' HO_9.out).1.symm] <;> rfl) | rfl | (simp only [List.length_drop, List.length_take]; rfl)) ?_; (with_reducible refine (laws_heldTurnS.calls kj30 _ _ t415 1 t416 _ ?side1 ?side2 A47.out).mono ?_); (case side1 => exact Z13 HO_9.out); (case side2 => rw [show t415.length = t402.length from (Kd.S_reads' HO_9.out).1.symm]; exact (Kd.S_reads' HO_9.out).2.1); rintro e w51 ⟨rfl, hb⟩; refine ⟨_, rfl, ?_⟩; have n0_ := A_ (Kd.S_below (Z9 HO_6.out) hb); have n1_ := A_ (Kd.S_below (Z9 HO_9.out) hb); have n2_ := A_ (below_step Z0 hb); have ne_ := A_ (sz_below Z14 hb); clear HE; have HE := ne_; clear ne_; clear HO_6; clear HO_9; clear HB; have HO_6 := n0_; have HO_9 := n1_; have HB := n2_; clear n0_ n1_ n2_; (try clear hb); (try clear hb2); (try clear hk); (try clear hi)))
          go_ret
          exact ⟨Z4, Z0⟩
         ·rw [if_neg c48] at H
          have c48b0 : decide (t416 < 0) = false := decide_eq_false c48
          clear c48
          by_cases c52 : t416 = t414
          ·rw [if_pos c52] at H
           have c52b0 : (t416 == t414) = true := beq_iff_eq.mpr c52
           have c52b1 : (t416 != t414) = false := bne_eq_false_iff_eq.mpr c52
           clear c52
           replace H := Option.bind_eq_some_iff.mp H
           obtain ⟨t417, A530, H⟩ := H
           replace H : ((impl_TurnsCut.f kj30 t417 a1).bind fun bt420 => ((laws_eqTurnS.f kj30 bt420.1 t395).bind fun t424 => (if t424 = true then (laws_FnExactTurnsCut.j2 kj30 t415 t414 (bt420.2 != t396)) else (laws_FnExactTurnsCut.j2 kj30 t415 t414 true)))) = some r := H
           have A53 := A_ A530
           clear A530
           replace H := Option.bind_eq_some_iff.mp H
           obtain ⟨⟨t420, t421⟩, A540, H⟩ := H
           replace H : ((laws_eqTurnS.f kj30 t420 t395).bind fun t424 => (if t424 = true then (laws_FnExactTurnsCut.j2 kj30 t415 t414 (t421 != t396)) else (laws_FnExactTurnsCut.j2 kj30 t415 t414 true))) = some r := H
           have A54 := A_ A540
           clear A540
           have HC55 := A_ H
           clear H
           obtain ⟨Ao56, co56, eo56⟩ := Kd.S_slice HO_9.out
           subst eo56
           go_upto_region 25 with (first | ((with_reducible refine gate_callee (f := 43) rfl ?_); refine goesL_ (some 68) rfl rfl Try.func43 (by kernel_rfl) rfl #[.slice Ao56 t402.length co56, .int .i64 1] rfl Z3 ?_; (with_reducible refine (laws_markTurnS.calls kj30 (Win wa_9 wb_9) (.slice Ao56 t402.length co56) t402 1 t414 t415 w _ ?side1 ?side2 A46.out).mono ?_); (case side1 => exact Z0); (case side2 => exact (Z9 HO_9.out)); rintro e w57 ⟨rfl, hy0, hb, hkp⟩; refine ⟨_, rfl, ?_⟩; have hs_ := HS.out; have n0_ := A_ (Kd.S_winK (Z9 HO_6.out) hkp (by omega)); have n1_ := A_ (hy0); have n2_ := A_ (hb); have ne_ := A_ (sz_kept Z14 hkp); clear hs_; clear HE; have HE := ne_; clear ne_; clear HO_6; clear HO_9; clear HB; have HO_6 := n0_; have HO_9 := n1_; have HB := n2_; clear n0_ n1_ n2_; (try clear hb); (try clear hkp); (try clear hy0)) | ((with_reducible refine gate_callee (f := 44) rfl ?_); refine goesL_ (some 71) rfl rfl Try.func44 (by kernel_rfl) rfl #[.slice Ao56 t415.length co56, .int .i64 1] rfl (by (try simp only [List.map_toArray, List.map_cons, List.map_nil]); first | done | (rw [show t415.length = t402.length from (Kd.S_reads' HO_9.out).1.symm] <;> rfl) | rfl | (simp only [List.length_drop, List.length_take]; rfl)) ?_; (with_reducible refine (laws_heldTurnS.calls kj30 _ _ t415 1 t416 _ ?side1 ?side2 A47.out).mono ?_); (case side1 => exact Z13 HO_9.out); (case side2 => rw [show t415.length = t402.length from (Kd.S_reads' HO_9.out).1.symm]; exact (Kd.S_reads' HO_9.out).2.1); rintro e w58 ⟨rfl, hb⟩; refine ⟨_, rfl, ?_⟩; have n0_ := A_ (Kd.S_below (Z9 HO_6.out) hb); have n1_ := A_ (Kd.S_below (Z9 HO_9.out) hb); have n2_ := A_ (below_step Z0 hb); have ne_ := A_ (sz_below Z14 hb); clear HE; have HE := ne_; clear ne_; clear HO_6; clear HO_9; clear HB; have HO_6 := n0_; have HO_9 := n1_; have HB := n2_; clear n0_ n1_ n2_; (try clear hb); (try clear hb2); (try clear hk); (try clear hi)) | ((with_reducible refine gate_callee (f := 40) rfl ?_); refine goesL_ (some 79) rfl rfl Try.func40 (by kernel_rfl) rfl #[.slice A0 l0.length c0] rfl Z3 ?_; (with_reducible refine (laws_toTurnS.calls kj30 _ _ l0 t417 _ ?side1 ?side2 A53.out).mono ?_); (case side1 => exact Z6 HR0.out); (case side2 => exact HC0.out); rintro e w59 ⟨v418, rfl, ho0, hb⟩; refine ⟨_, rfl, ?_⟩; obtain ⟨wa419, wb419, nw_, ns1_, ns2_, ns3_⟩ := Kd.S_win ho0 (below_size Z0) Z14 hb.size; have n2_ := A_ (nw_); have nS_ := A_ (And.intro HS.out (And.intro ns1_ ns2_)); have ne_ := A_ (ns3_); clear nw_ ns1_ ns2_ ns3_; have n0_ := A_ (Kd.S_below (Z9 HO_6.out) hb); have n1_ := A_ (Kd.S_below (Z9 HO_9.out) hb); have n3_ := A_ (below_step Z0 hb); clear HS; have HS := nS_; clear nS_; clear HE; have HE := ne_; clear ne_; clear HO_6; clear HO_9; clear HB; have HO_6 := n0_; have HO_9 := n1_; have HO419 := n2_; have HB := n3_; clear n0_ n1_ n2_ n3_; (try clear hb); (try clear hb2); (try clear hk); (try clear hi); (try clear ho0); obtain ⟨Ao60, co60, eo60⟩ := Kd.S_slice HO419.out; subst eo60) | ((with_reducible refine gate_callee (f := 41) rfl ?_); refine goesL_ (some 81) rfl rfl Try.func41 (by kernel_rfl) rfl #[.slice Ao60 t417.length co60, .int .i64 a1] rfl Z3 ?_; (with_reducible refine (impl_TurnsCut.calls kj30 _ _ t417 a1 t420 t421 _ ?side1 ?side2 A54.out).mono ?_); (case side1 => exact Z13 HO419.out); (case side2 => exact (Kd.S_reads' HO419.out).2.1); rintro e w61 ⟨v422, rfl, ho0, hb⟩; refine ⟨_, rfl, ?_⟩; obtain ⟨wa423, wb423, nw_, ns1_, ns2_, ns3_⟩ := Kd.S_win ho0 (below_size Z0) Z14 hb.size; have n3_ := A_ (nw_); have nS_ := A_ (And.intro HS.out (And.intro ns1_ ns2_)); have ne_ := A_ (ns3_); clear nw_ ns1_ ns2_ ns3_; have n0_ := A_ (Kd.S_below (Z9 HO_6.out) hb); have n1_ := A_ (Kd.S_below (Z9 HO_9.out) hb); have n2_ := A_ (Kd.S_below (Z9 HO419.out) hb); have n4_ := A_ (below_step Z0 hb); clear HS; have HS := nS_; clear nS_; clear HE; have HE := ne_; clear ne_; clear HO_6; clear HO_9; clear HO419; clear HB; have HO_6 := n0_; have HO_9 := n1_; have HO419 := n2_; have HO423 := n3_; have HB := n4_; clear n0_ n1_ n2_ n3_ n4_; (try clear hb); (try clear hb2); (try clear hk); (try clear hi); (try clear ho0)))
           (try simp only [Act.put, List.setIfInBounds_toArray, List.set_cons_zero, List.set_cons_succ])
           go_cut [92] (fun v92 wc => ∃ (kq : Nat) (x92_54 : Bool) (wa_9 wb_9 : Nat), v92 = .bool x92_54 ∧ Aside0 (laws_FnExactTurnsCut.j2 kq t415 t414 x92_54 = some r) ∧ Aside0 (kq ≤ kj30) ∧ Aside0 (Kd.S k122 122 wc w.heap.size (Win wa_9 wb_9) (.slice Ao56 t402.length co56) t415) ∧ Aside0 (Below w.heap.size w wc) ∧ Aside0 (w.heap.size ≤ wa_9 ∧ wa_9 ≤ wb_9) ∧ Aside0 (wb_9 ≤ wc.heap.size))
           case first =>
            have H := HC55.out
            clear HC55
            replace H := Option.bind_eq_some_iff.mp H
            obtain ⟨t424, A620, H⟩ := H
            replace H : (if t424 = true then (laws_FnExactTurnsCut.j2 kj30 t415 t414 (t421 != t396)) else (laws_FnExactTurnsCut.j2 kj30 t415 t414 true)) = some r := H
            have A62 := A_ A620
            clear A620
            by_cases c63 : t424 = true
            ·subst c63
             have H1 : (laws_FnExactTurnsCut.j2 kj30 t415 t414 (t421 != t396)) = some r := by rw [if_pos rfl] at H; exact H
             clear H
             have H := H1
             clear H1
             have H' := A_ H
             clear H
             obtain ⟨Ao64, co64, eo64⟩ := Kd.S_slice HO423.out
             subst eo64
             obtain ⟨Ao65, co65, eo65⟩ := Kd.S_slice HO_6.out
             subst eo65
             go_wp2_with (first | ((with_reducible refine gate_callee (f := 42) rfl ?_); refine goesL_ (some 86) rfl rfl Try.func42 (by kernel_rfl) rfl #[.slice Ao64 t420.length co64, .slice Ao65 t395.length co65] rfl Z3 ?_; (with_reducible refine (laws_eqTurnS.calls kj30 _ _ t420 _ _ t395 true _ ?side1 ?side2 ?side3 ?side4 A62.out).mono ?_); (case side1 => exact Z13 HO423.out); (case side2 => exact (Kd.S_reads' HO423.out).2.1); (case side3 => exact Z13 HO_6.out); (case side4 => exact (Kd.S_reads' HO_6.out).2.1); rintro e w66 ⟨rfl, hb⟩; refine ⟨_, rfl, ?_⟩; have n0_ := A_ (Kd.S_below (Z9 HO_6.out) hb); have n1_ := A_ (Kd.S_below (Z9 HO_9.out) hb); have n2_ := A_ (Kd.S_below (Z9 HO419.out) hb); have n3_ := A_ (Kd.S_below (Z9 HO423.out) hb); have n4_ := A_ (below_step Z0 hb); have ne_ := A_ (sz_below Z14 hb); clear HE; have HE := ne_; clear ne_; clear HO_6; clear HO_9; clear HO419; clear HO423; clear HB; have HO_6 := n0_; have HO_9 := n1_; have HO419 := n2_; have HO423 := n3_; have HB := n4_; clear n0_ n1_ n2_ n3_ n4_; (try clear hb); (try clear hb2); (try clear hk); (try clear hi)))
             go_meet
             case rel => exact ⟨_, ((t421 != t396)), wa_9, wb_9, Z12, H', ⟨by have := HJ9.out; have := HJ30.out; first | omega | exact Nat.le_refl _⟩, ⟨Z9 HO_9.out⟩, ⟨Z0⟩, ⟨by have hs_ := HS.out; omega⟩, ⟨by have hs_ := HS.out; refine Nat.le_trans ?_ Z14; omega⟩⟩
            ·replace c63 := Bool.eq_false_iff.mpr c63
             subst c63
             have H1 : (laws_FnExactTurnsCut.j2 kj30 t415 t414 true) = some r := by rw [if_neg (show ¬ (false = true) by decide)] at H; exact H
             clear H
             have H := H1
             clear H1
             have H' := A_ H
             clear H
             obtain ⟨Ao67, co67, eo67⟩ := Kd.S_slice HO423.out
             subst eo67
             obtain ⟨Ao68, co68, eo68⟩ := Kd.S_slice HO_6.out
             subst eo68
             go_wp2_with (first | ((with_reducible refine gate_callee (f := 42) rfl ?_); refine goesL_ (some 86) rfl rfl Try.func42 (by kernel_rfl) rfl #[.slice Ao67 t420.length co67, .slice Ao68 t395.length co68] rfl Z3 ?_; (with_reducible refine (laws_eqTurnS.calls kj30 _ _ t420 _ _ t395 false _ ?side1 ?side2 ?side3 ?side4 A62.out).mono ?_); (case side1 => exact Z13 HO423.out); (case side2 => exact (Kd.S_reads' HO423.out).2.1); (case side3 => exact Z13 HO_6.out); (case side4 => exact (Kd.S_reads' HO_6.out).2.1); rintro e w69 ⟨rfl, hb⟩; refine ⟨_, rfl, ?_⟩; have n0_ := A_ (Kd.S_below (Z9 HO_6.out) hb); have n1_ := A_ (Kd.S_below (Z9 HO_9.out) hb); have n2_ := A_ (Kd.S_below (Z9 HO419.out) hb); have n3_ := A_ (Kd.S_below (Z9 HO423.out) hb); have n4_ := A_ (below_step Z0 hb); have ne_ := A_ (sz_below Z14 hb); clear HE; have HE := ne_; clear ne_; clear HO_6; clear HO_9; clear HO419; clear HO423; clear HB; have HO_6 := n0_; have HO_9 := n1_; have HO419 := n2_; have HO423 := n3_; have HB := n4_; clear n0_ n1_ n2_ n3_ n4_; (try clear hb); (try clear hb2); (try clear hk); (try clear hi)))
             go_meet
             case rel => exact ⟨_, (true), wa_9, wb_9, Z12, H', ⟨by have := HJ9.out; have := HJ30.out; first | omega | exact Nat.le_refl _⟩, ⟨Z9 HO_9.out⟩, ⟨Z0⟩, ⟨by have hs_ := HS.out; omega⟩, ⟨by have hs_ := HS.out; refine Nat.le_trans ?_ Z14; omega⟩⟩
           case rest =>
            clear HC55
            try clear c1
            try clear c2
            try clear p2
            try clear c3
            try clear c4
            try clear c4b0
            try clear c5
            try clear c6
            try clear c7
            try clear c19
            try clear c26
            try clear c29
            try clear c36
            try clear c36b0
            try clear c38
            try clear c39
            try clear c40
            try clear c41
            try clear c42
            try clear c43
            try clear c44
            try clear c45
            try clear c48
            try clear c48b0
            try clear c52
            try clear c52b0
            try clear c52b1
            try clear c63
            try clear p2
            obtain ⟨kq, x92_54, wa_9, wb_9, rfl, HA, HJ54, HO_9, HB, HS, HE⟩ := hcut
            have hl9_54 := (Kd.S_reads' HO_9.out).1
            rw [hl9_54] at HO_9
            (try simp only [hl9_54])
            cases kq with
            | zero => exact absurd HA.out (by simp [laws_FnExactTurnsCut.j2])
            | succ kj54 =>
             have H := HA.out
             clear HA
             simp only [laws_FnExactTurnsCut.j2] at H
             by_cases c70 : x92_54 = true
             ·subst c70
              have H1 : (some false) = some r := by rw [if_pos rfl] at H; exact H
              clear H
              have H := H1
              clear H1
              obtain rfl := Option.some.inj H
              go_wp2
              go_ret
              exact ⟨Z4, Z0⟩
             ·replace c70 := Bool.eq_false_iff.mpr c70
              subst c70
              have H1 : ((laws_heldTurnS.f kj54 t415 1).bind fun t425 => (if t425 < 0 then (some false) else (if t425 = t414 then (some true) else (some false)))) = some r := by rw [if_neg (show ¬ (false = true) by decide)] at H; exact H
              clear H
              have H := H1
              clear H1
              replace H := Option.bind_eq_some_iff.mp H
              obtain ⟨t425, A710, H⟩ := H
              replace H : (if t425 < 0 then (some false) else (if t425 = t414 then (some true) else (some false))) = some r := H
              have A71 := A_ A710
              clear A710
              by_cases c72 : t425 < 0
              ·rw [if_pos c72] at H
               have c72b0 : decide (t425 < 0) = true := decide_eq_true c72
               clear c72
               obtain rfl := Option.some.inj H
               go_wp2_with (first | ((with_reducible refine gate_callee (f := 44) rfl ?_); refine goesL_ (some 95) rfl rfl Try.func44 (by kernel_rfl) rfl #[.slice Ao56 t415.length co56, .int .i64 1] rfl Z3 ?_; (with_reducible refine (laws_heldTurnS.calls kj54 _ _ t415 1 t425 _ ?side1 ?side2 A71.out).mono ?_); (case side1 => exact Z13 HO_9.out); (case side2 => exact (Kd.S_reads' HO_9.out).2.1); rintro e w73 ⟨rfl, hb⟩; refine ⟨_, rfl, ?_⟩; have n0_ := A_ (Kd.S_below (Z9 HO_9.out) hb); have n1_ := A_ (below_step Z0 hb); have ne_ := A_ (sz_below Z14 hb); clear HE; have HE := ne_; clear ne_; clear HO_9; clear HB; have HO_9 := n0_; have HB := n1_; clear n0_ n1_; (try clear hb); (try clear hb2); (try clear hk); (try clear hi)))
               go_ret
               exact ⟨Z4, Z0⟩
              ·rw [if_neg c72] at H
               have c72b0 : decide (t425 < 0) = false := decide_eq_false c72
               clear c72
               by_cases c74 : t425 = t414
               ·rw [if_pos c74] at H
                have c74b0 : (t425 == t414) = true := beq_iff_eq.mpr c74
                have c74b1 : (t425 != t414) = false := bne_eq_false_iff_eq.mpr c74
                clear c74
                obtain rfl := Option.some.inj H
                go_wp2_with (first | ((with_reducible refine gate_callee (f := 44) rfl ?_); refine goesL_ (some 95) rfl rfl Try.func44 (by kernel_rfl) rfl #[.slice Ao56 t415.length co56, .int .i64 1] rfl Z3 ?_; (with_reducible refine (laws_heldTurnS.calls kj54 _ _ t415 1 t425 _ ?side1 ?side2 A71.out).mono ?_); (case side1 => exact Z13 HO_9.out); (case side2 => exact (Kd.S_reads' HO_9.out).2.1); rintro e w75 ⟨rfl, hb⟩; refine ⟨_, rfl, ?_⟩; have n0_ := A_ (Kd.S_below (Z9 HO_9.out) hb); have n1_ := A_ (below_step Z0 hb); have ne_ := A_ (sz_below Z14 hb); clear HE; have HE := ne_; clear ne_; clear HO_9; clear HB; have HO_9 := n0_; have HB := n1_; clear n0_ n1_; (try clear hb); (try clear hb2); (try clear hk); (try clear hi)))
                go_ret
                exact ⟨Z4, Z0⟩
               ·rw [if_neg c74] at H
                have c74b0 : (t425 == t414) = false := beq_eq_false_iff_ne.mpr c74
                have c74b1 : (t425 != t414) = true := bne_iff_ne.mpr c74
                obtain rfl := Option.some.inj H
                go_wp2_with (first | ((with_reducible refine gate_callee (f := 44) rfl ?_); refine goesL_ (some 95) rfl rfl Try.func44 (by kernel_rfl) rfl #[.slice Ao56 t415.length co56, .int .i64 1] rfl Z3 ?_; (with_reducible refine (laws_heldTurnS.calls kj54 _ _ t415 1 t425 _ ?side1 ?side2 A71.out).mono ?_); (case side1 => exact Z13 HO_9.out); (case side2 => exact (Kd.S_reads' HO_9.out).2.1); rintro e w76 ⟨rfl, hb⟩; refine ⟨_, rfl, ?_⟩; have n0_ := A_ (Kd.S_below (Z9 HO_9.out) hb); have n1_ := A_ (below_step Z0 hb); have ne_ := A_ (sz_below Z14 hb); clear HE; have HE := ne_; clear ne_; clear HO_9; clear HB; have HO_9 := n0_; have HB := n1_; clear n0_ n1_; (try clear hb); (try clear hb2); (try clear hk); (try clear hi)))
                go_ret
                exact ⟨Z4, Z0⟩
          ·rw [if_neg c52] at H
           have c52b0 : (t416 == t414) = false := beq_eq_false_iff_ne.mpr c52
           have c52b1 : (t416 != t414) = true := bne_iff_ne.mpr c52
           obtain rfl := Option.some.inj H
           obtain ⟨Ao77, co77, eo77⟩ := Kd.S_slice HO_9.out
           subst eo77
           go_wp2_with (first | ((with_reducible refine gate_callee (f := 43) rfl ?_); refine goesL_ (some 68) rfl rfl Try.func43 (by kernel_rfl) rfl #[.slice Ao77 t402.length co77, .int .i64 1] rfl Z3 ?_; (with_reducible refine (laws_markTurnS.calls kj30 (Win wa_9 wb_9) (.slice Ao77 t402.length co77) t402 1 t414 t415 w _ ?side1 ?side2 A46.out).mono ?_); (case side1 => exact Z0); (case side2 => exact (Z9 HO_9.out)); rintro e w78 ⟨rfl, hy0, hb, hkp⟩; refine ⟨_, rfl, ?_⟩; have hs_ := HS.out; have n0_ := A_ (Kd.S_winK (Z9 HO_6.out) hkp (by omega)); have n1_ := A_ (hy0); have n2_ := A_ (hb); have ne_ := A_ (sz_kept Z14 hkp); clear hs_; clear HE; have HE := ne_; clear ne_; clear HO_6; clear HO_9; clear HB; have HO_6 := n0_; have HO_9 := n1_; have HB := n2_; clear n0_ n1_ n2_; (try clear hb); (try clear hkp); (try clear hy0)) | ((with_reducible refine gate_callee (f := 44) rfl ?_); refine goesL_ (some 71) rfl rfl Try.func44 (by kernel_rfl) rfl #[.slice Ao77 t415.length co77, .int .i64 1] rfl (by (try simp only [List.map_toArray, List.map_cons, List.map_nil]); first | done | (rw [show t415.length = t402.length from (Kd.S_reads' HO_9.out).1.symm] <;> rfl) | rfl | (simp only [List.length_drop, List.length_take]; rfl)) ?_; (with_reducible refine (laws_heldTurnS.calls kj30 _ _ t415 1 t416 _ ?side1 ?side2 A47.out).mono ?_); (case side1 => exact Z13 HO_9.out); (case side2 => rw [show t415.length = t402.length from (Kd.S_reads' HO_9.out).1.symm]; exact (Kd.S_reads' HO_9.out).2.1); rintro e w79 ⟨rfl, hb⟩; refine ⟨_, rfl, ?_⟩; have n0_ := A_ (Kd.S_below (Z9 HO_6.out) hb); have n1_ := A_ (Kd.S_below (Z9 HO_9.out) hb); have n2_ := A_ (below_step Z0 hb); have ne_ := A_ (sz_below Z14 hb); clear HE; have HE := ne_; clear ne_; clear HO_6; clear HO_9; clear HB; have HO_6 := n0_; have HO_9 := n1_; have HB := n2_; clear n0_ n1_ n2_; (try clear hb); (try clear hb2); (try clear hk); (try clear hi)))
           go_ret
           exact ⟨Z4, Z0⟩
     ·replace c29 := Bool.eq_false_iff.mpr c29
      subst c29
      have H1 : (some false) = some r := by rw [if_neg (show ¬ (false = true) by decide)] at H; exact H
      clear H
      have H := H1
      clear H1
      obtain rfl := Option.some.inj H
      go_wp2_with (first | ((with_reducible refine gate_callee (f := 40) rfl ?_); refine goesL_ (some 47) rfl rfl Try.func40 (by kernel_rfl) rfl #[.slice A0 l0.length c0] rfl Z3 ?_; (with_reducible refine (laws_toTurnS.calls kj9 _ _ l0 t407 _ ?side1 ?side2 A27.out).mono ?_); (case side1 => exact Z6 HR0.out); (case side2 => exact HC0.out); rintro e w80 ⟨v408, rfl, ho0, hb⟩; refine ⟨_, rfl, ?_⟩; obtain ⟨wa409, wb409, nw_, ns1_, ns2_, ns3_⟩ := Kd.S_win ho0 (below_size Z0) Z14 hb.size; have n3_ := A_ (nw_); have nS_ := A_ (And.intro HS.out (And.intro ns1_ ns2_)); have ne_ := A_ (ns3_); clear nw_ ns1_ ns2_ ns3_; have n0_ := A_ (Kd.S_below (Z9 HO_6.out) hb); have n1_ := A_ (Kd.S_below (Z9 HO_8.out) hb); have n2_ := A_ (Kd.S_below (Z9 HO_9.out) hb); have n4_ := A_ (below_step Z0 hb); clear HS; have HS := nS_; clear nS_; clear HE; have HE := ne_; clear ne_; clear HO_6; clear HO_8; clear HO_9; clear HB; have HO_6 := n0_; have HO_8 := n1_; have HO_9 := n2_; have HO409 := n3_; have HB := n4_; clear n0_ n1_ n2_ n3_ n4_; (try clear hb); (try clear hb2); (try clear hk); (try clear hi); (try clear ho0); obtain ⟨Ao81, co81, eo81⟩ := Kd.S_slice HO409.out; subst eo81) | ((with_reducible refine gate_callee (f := 42) rfl ?_); refine goesL_ (some 48) rfl rfl Try.func42 (by kernel_rfl) rfl #[.slice Ao16 t399.length co16, .slice Ao81 t407.length co81] rfl Z3 ?_; (with_reducible refine (laws_eqTurnS.calls kj9 _ _ t399 _ _ t407 false _ ?side1 ?side2 ?side3 ?side4 A28.out).mono ?_); (case side1 => exact Z13 HO_8.out); (case side2 => exact (Kd.S_reads' HO_8.out).2.1); (case side3 => exact Z13 HO409.out); (case side4 => exact (Kd.S_reads' HO409.out).2.1); rintro e w82 ⟨rfl, hb⟩; refine ⟨_, rfl, ?_⟩; have n0_ := A_ (Kd.S_below (Z9 HO_6.out) hb); have n1_ := A_ (Kd.S_below (Z9 HO_8.out) hb); have n2_ := A_ (Kd.S_below (Z9 HO_9.out) hb); have n3_ := A_ (Kd.S_below (Z9 HO409.out) hb); have n4_ := A_ (below_step Z0 hb); have ne_ := A_ (sz_below Z14 hb); clear HE; have HE := ne_; clear ne_; clear HO_6; clear HO_8; clear HO_9; clear HO409; clear HB; have HO_6 := n0_; have HO_8 := n1_; have HO_9 := n2_; have HO409 := n3_; have HB := n4_; clear n0_ n1_ n2_ n3_ n4_; (try clear hb); (try clear hb2); (try clear hk); (try clear hi)))
      go_ret
      exact ⟨Z4, Z0⟩
end Go.Proofs.Ytpadhphdglbciaa.PFnExactTurnsCut
