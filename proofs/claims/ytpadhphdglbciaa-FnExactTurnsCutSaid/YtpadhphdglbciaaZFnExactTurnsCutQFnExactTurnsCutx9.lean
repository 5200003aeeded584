/- Walks of the functions that the law 'FnExactTurnsCut' reaches, part 9: for each a Lean function and the proof that Go's comes to just its answer (lines of the print, under own names; no condition). -/
import Derived.Test.YtpadhphdglbciaaZFnExactTurnsCutQFnExactTurnsCutx0
import Derived.Test.YtpadhphdglbciaaZFnExactTurnsCutQFnExactTurnsCutx6
import Derived.Test.YtpadhphdglbciaaZFnExactTurnsCutQFnExactTurnsCutx8
namespace Go.Proofs.Ytpadhphdglbciaa.PFnExactTurnsCut
open Go.RowKit Go.Proofs.YtpadhphdglbciaaW.PrintWords Go.Proofs.YtpadhphdglbciaaW.PrintLast Go.Proofs.YtpadhphdglbciaaW.PrintMore
attribute [local go_sem] max2_int min2_int max_two min_two max_three min_three max_four min_four
set_option linter.unusedVariables false
set_option linter.unusedSimpArgs false
def impl_FormOk.f (k : Nat) (l0 : List (S137)) (a1 : Int) (a2 : Int) (a3 : Int) : Option (Bool) := (impl_within.f a1 0 3).bind fun t268 => (if t268 = true then ((impl_within.f a2 0 3).bind fun t269 => (if t269 = true then ((impl_within.f a3 0 4).bind fun t270 => (if t270 = true then ((impl_formFits.f k l0 a1 a2 a3).bind fun t271 => (some t271)) else (some false))) else (some false))) else (some false))
theorem impl_FormOk.mono : ∀ a0 a1 a2 a3 k, LeO (impl_FormOk.f k a0 a1 a2 a3) (impl_FormOk.f (k + 1) a0 a1 a2 a3) := by
 intro a0 a1 a2 a3 k
 unfold impl_FormOk.f
 repeat' first
   | (with_reducible exact impl_formFits.mono _ _ _ _ _)
   | (with_reducible exact LeO.refl _)
   | (with_reducible exact LeO.none _)
   | (with_reducible refine LeO.ite ?_ ?_)
   | (with_reducible refine LeO.bind ?_ (fun _ => ?_))
   | exact impl_formFits.mono _ _ _ _ _
   | exact LeO.none _
   | refine LeO.ite ?_ ?_
   | refine LeO.bind ?_ (fun _ => ?_)
set_option maxHeartbeats 8000000 in
set_option maxRecDepth 100000 in
theorem impl_FormOk.calls (k : Nat) (A0 : Option Addr) (c0 : Nat) (l0 : List (S137)) (a1 : Int) (a2 : Int) (a3 : Int) (r : Bool) (w : World) (hr0 : Kd.C k137 w A0 l0.length l0) (hc0 : l0.length ≤ c0) (h : impl_FormOk.f k l0 a1 a2 a3 = some r) :
  Calls Try.prog 114 #[.slice A0 l0.length c0, .int .i64 a1, .int .i64 a2, .int .i64 a3] w fun e w' => e = .returned (.bool r) ∧ Below w.heap.size w w' := by
 have HR0 := A_ hr0
 have HC0 := A_ hc0
 clear hr0 hc0
 have HB := A_ (Below.refl w.heap.size w)
 have H : ((impl_within.f a1 0 3).bind fun t268 => (if t268 = true then ((impl_within.f a2 0 3).bind fun t269 => (if t269 = true then ((impl_within.f a3 0 4).bind fun t270 => (if t270 = true then ((impl_formFits.f k l0 a1 a2 a3).bind fun t271 => (some t271)) else (some false))) else (some false))) else (some false))) = some r := h
 clear h
 replace H := Option.bind_eq_some_iff.mp H
 obtain ⟨t268, A50, H⟩ := H
 replace H : (if t268 = true then ((impl_within.f a2 0 3).bind fun t269 => (if t269 = true then ((impl_within.f a3 0 4).bind fun t270 => (if t270 = true then ((impl_formFits.f k l0 a1 a2 a3).bind fun t271 => (some t271)) else (some false))) else (some false))) else (some false)) = some r := H
 have A5 := A_ A50
 clear A50
 by_cases c6 : t268 = true
 ·subst c6
  have H1 : ((impl_within.f a2 0 3).bind fun t269 => (if t269 = true then ((impl_within.f a3 0 4).bind fun t270 => (if t270 = true then ((impl_formFits.f k l0 a1 a2 a3).bind fun t271 => (some t271)) else (some false))) else (some false))) = some r := by rw [if_pos rfl] at H; exact H
  clear H
  have H := H1
  clear H1
  replace H := Option.bind_eq_some_iff.mp H
  obtain ⟨t269, A70, H⟩ := H
  replace H : (if t269 = true then ((impl_within.f a3 0 4).bind fun t270 => (if t270 = true then ((impl_formFits.f k l0 a1 a2 a3).bind fun t271 => (some t271)) else (some false))) else (some false)) = some r := H
  have A7 := A_ A70
  clear A70
  by_cases c8 : t269 = true
  ·subst c8
   have H1 : ((impl_within.f a3 0 4).bind fun t270 => (if t270 = true then ((impl_formFits.f k l0 a1 a2 a3).bind fun t271 => (some t271)) else (some false))) = some r := by rw [if_pos rfl] at H; exact H
   clear H
   have H := H1
   clear H1
   replace H := Option.bind_eq_some_iff.mp H
   obtain ⟨t270, A90, H⟩ := H
   replace H : (if t270 = true then ((impl_formFits.f k l0 a1 a2 a3).bind fun t271 => (some t271)) else (some false)) = some r := H
   have A9 := A_ A90
   clear A90
   by_cases c10 : t270 = true
   ·subst c10
    have H1 : ((impl_formFits.f k l0 a1 a2 a3).bind fun t271 => (some t271)) = some r := by rw [if_pos rfl] at H; exact H
    clear H
    have H := H1
    clear H1
    replace H := Option.bind_eq_some_iff.mp H
    obtain ⟨t271, A110, H⟩ := H
    replace H : (some t271) = some r := H
    have A11 := A_ A110
    clear A110
    obtain rfl := Option.some.inj H
    go_enter Try.func114, Try.ntmps114
    go_wp2_with (first | ((with_reducible refine gate_callee (f := 52) rfl ?_); refine goesL_ (some 10) rfl rfl Try.func52 (by kernel_rfl) rfl #[.int .i64 a1, .int .i64 0, .int .i64 3] rfl Z3 ?_; (with_reducible refine (impl_within.calls a1 0 3 true _ A5.out).mono ?_); rintro e w' ⟨rfl, ⟨nd, rfl⟩⟩; refine ⟨_, rfl, ?_⟩) | (go_at_call 52; (with_reducible refine (impl_within.calls a2 0 3 true _ A7.out).mono ?_); rintro e w' ⟨rfl, ⟨nd, rfl⟩⟩) | (go_at_call 52; (with_reducible refine (impl_within.calls a3 0 4 true _ A9.out).mono ?_); rintro e w' ⟨rfl, ⟨nd, rfl⟩⟩) | (go_at_call 118; (with_reducible refine (impl_formFits.calls k _ _ l0 a1 a2 a3 t271 _ ?side1 ?side2 A11.out).mono ?_); (case side1 => exact Z42 HR0.out); (case side2 => exact HC0.out); rintro e w12 ⟨rfl, hb⟩; have n0_ := A_ (below_step Z0 hb); clear HB; have HB := n0_; clear n0_; (try clear hb); (try clear hb2); (try clear hk); (try clear hi)))
    go_ret
    exact ⟨Z4, Z0⟩
   ·replace c10 := Bool.eq_false_iff.mpr c10
    subst c10
    have H1 : (some false) = some r := by rw [if_neg (show ¬ (false = true) by decide)] at H; exact H
    clear H
    have H := H1
    clear H1
    obtain rfl := Option.some.inj H
    go_enter Try.func114, Try.ntmps114
    go_wp2_with (first | ((with_reducible refine gate_callee (f := 52) rfl ?_); refine goesL_ (some 10) rfl rfl Try.func52 (by kernel_rfl) rfl #[.int .i64 a1, .int .i64 0, .int .i64 3] rfl Z3 ?_; (with_reducible refine (impl_within.calls a1 0 3 true _ A5.out).mono ?_); rintro e w' ⟨rfl, ⟨nd, rfl⟩⟩; refine ⟨_, rfl, ?_⟩) | (go_at_call 52; (with_reducible refine (impl_within.calls a2 0 3 true _ A7.out).mono ?_); rintro e w' ⟨rfl, ⟨nd, rfl⟩⟩) | (go_at_call 52; (with_reducible refine (impl_within.calls a3 0 4 false _ A9.out).mono ?_); rintro e w' ⟨rfl, ⟨nd, rfl⟩⟩))
    go_ret
    exact ⟨Z4, Z0⟩
  ·replace c8 := Bool.eq_false_iff.mpr c8
   subst c8
   have H1 : (some false) = some r := by rw [if_neg (show ¬ (false = true) by decide)] at H; exact H
   clear H
   have H := H1
   clear H1
   obtain rfl := Option.some.inj H
   go_enter Try.func114, Try.ntmps114
   go_wp2_with (first | ((with_reducible refine gate_callee (f := 52) rfl ?_); refine goesL_ (some 10) rfl rfl Try.func52 (by kernel_rfl) rfl #[.int .i64 a1, .int .i64 0, .int .i64 3] rfl Z3 ?_; (with_reducible refine (impl_within.calls a1 0 3 true _ A5.out).mono ?_); rintro e w' ⟨rfl, ⟨nd, rfl⟩⟩; refine ⟨_, rfl, ?_⟩) | (go_at_call 52; (with_reducible refine (impl_within.calls a2 0 3 false _ A7.out).mono ?_); rintro e w' ⟨rfl, ⟨nd, rfl⟩⟩))
   go_ret
   exact ⟨Z4, Z0⟩
 ·replace c6 := Bool.eq_false_iff.mpr c6
  subst c6
  have H1 : (some false) = some r := by rw [if_neg (show ¬ (false = true) by decide)] at H; exact H
  clear H
  have H := H1
  clear H1
  obtain rfl := Option.some.inj H
  go_enter Try.func114, Try.ntmps114
  go_wp2_with (first | ((with_reducible refine gate_callee (f := 52) rfl ?_); refine goesL_ (some 10) rfl rfl Try.func52 (by kernel_rfl) rfl #[.int .i64 a1, .int .i64 0, .int .i64 3] rfl Z3 ?_; (with_reducible refine (impl_within.calls a1 0 3 false _ A5.out).mono ?_); rintro e w' ⟨rfl, ⟨nd, rfl⟩⟩; refine ⟨_, rfl, ?_⟩))
  go_ret
  exact ⟨Z4, Z0⟩
def impl_UpdateOk.f (k : Nat) (l0_0 : List (S92)) (a0_1 : Int) (l0_2 : List (S137)) (a0_3 : Int) : Option (Bool) := (impl_PlaceOk.f k l0_0).bind fun t273 => (if t273 = true then ((impl_within.f a0_1 0 2).bind fun t274 => (if t274 = true then ((impl_within.f a0_3 (-1) 2).bind fun t275 => (if t275 = true then ((impl_FormOk.f k l0_2 0 3 0).bind fun t276 => (some t276)) else (some false))) else (some false))) else (some false))
theorem impl_UpdateOk.mono : ∀ a0 a1 a2 a3 k, LeO (impl_UpdateOk.f k a0 a1 a2 a3) (impl_UpdateOk.f (k + 1) a0 a1 a2 a3) := by
 intro a0 a1 a2 a3 k
 unfold impl_UpdateOk.f
 repeat' first
   | (with_reducible exact impl_FormOk.mono _ _ _ _ _)
   | (with_reducible exact impl_PlaceOk.mono _ _)
   | (with_reducible exact LeO.refl _)
   | (with_reducible exact LeO.none _)
   | (with_reducible refine LeO.ite ?_ ?_)
   | (with_reducible refine LeO.bind ?_ (fun _ => ?_))
   | exact impl_FormOk.mono _ _ _ _ _
   | exact impl_PlaceOk.mono _ _
   | exact LeO.none _
   | refine LeO.ite ?_ ?_
   | refine LeO.bind ?_ (fun _ => ?_)
set_option maxHeartbeats 8000000 in
set_option maxRecDepth 100000 in
theorem impl_UpdateOk.calls (k : Nat) (A0_0 : Option Addr) (c0_0 : Nat) (l0_0 : List (S92)) (a0_1 : Int) (A0_2 : Option Addr) (c0_2 : Nat) (l0_2 : List (S137)) (a0_3 : Int) (r : Bool) (w : World) (hr0_0 : Kd.C k92 w A0_0 l0_0.length l0_0) (hc0_0 : l0_0.length ≤ c0_0) (hr0_2 : Kd.C k137 w A0_2 l0_2.length l0_2) (hc0_2 : l0_2.length ≤ c0_2) (h : impl_UpdateOk.f k l0_0 a0_1 l0_2 a0_3 = some r) :
  Calls Try.prog 107 #[.agg #[.slice A0_0 l0_0.length c0_0, .int .i64 a0_1, .slice A0_2 l0_2.length c0_2, .int .i64 a0_3]] w fun e w' => e = .returned (.bool r) ∧ Below w.heap.size w w' := by
 have hu120 := Try.underlying120
 have HR0_0 := A_ hr0_0
 have HC0_0 := A_ hc0_0
 clear hr0_0 hc0_0
 have HR0_2 := A_ hr0_2
 have HC0_2 := A_ hc0_2
 clear hr0_2 hc0_2
 have HB := A_ (Below.refl w.heap.size w)
 have H : ((impl_PlaceOk.f k l0_0).bind fun t273 => (if t273 = true then ((impl_within.f a0_1 0 2).bind fun t274 => (if t274 = true then ((impl_within.f a0_3 (-1) 2).bind fun t275 => (if t275 = true then ((impl_FormOk.f k l0_2 0 3 0).bind fun t276 => (some t276)) else (some false))) else (some false))) else (some false))) = some r := h
 clear h
 replace H := Option.bind_eq_some_iff.mp H
 obtain ⟨t273, A20, H⟩ := H
 replace H : (if t273 = true then ((impl_within.f a0_1 0 2).bind fun t274 => (if t274 = true then ((impl_within.f a0_3 (-1) 2).bind fun t275 => (if t275 = true then ((impl_FormOk.f k l0_2 0 3 0).bind fun t276 => (some t276)) else (some false))) else (some false))) else (some false)) = some r := H
 have A2 := A_ A20
 clear A20
 by_cases c3 : t273 = true
 ·subst c3
  have H1 : ((impl_within.f a0_1 0 2).bind fun t274 => (if t274 = true then ((impl_within.f a0_3 (-1) 2).bind fun t275 => (if t275 = true then ((impl_FormOk.f k l0_2 0 3 0).bind fun t276 => (some t276)) else (some false))) else (some false))) = some r := by rw [if_pos rfl] at H; exact H
  clear H
  have H := H1
  clear H1
  replace H := Option.bind_eq_some_iff.mp H
  obtain ⟨t274, A40, H⟩ := H
  replace H : (if t274 = true then ((impl_within.f a0_3 (-1) 2).bind fun t275 => (if t275 = true then ((impl_FormOk.f k l0_2 0 3 0).bind fun t276 => (some t276)) else (some false))) else (some false)) = some r := H
  have A4 := A_ A40
  clear A40
  by_cases c5 : t274 = true
  ·subst c5
   have H1 : ((impl_within.f a0_3 (-1) 2).bind fun t275 => (if t275 = true then ((impl_FormOk.f k l0_2 0 3 0).bind fun t276 => (some t276)) else (some false))) = some r := by rw [if_pos rfl] at H; exact H
   clear H
   have H := H1
   clear H1
   replace H := Option.bind_eq_some_iff.mp H
   obtain ⟨t275, A60, H⟩ := H
   replace H : (if t275 = true then ((impl_FormOk.f k l0_2 0 3 0).bind fun t276 => (some t276)) else (some false)) = some r := H
   have A6 := A_ A60
   clear A60
   by_cases c7 : t275 = true
   ·subst c7
    have H1 : ((impl_FormOk.f k l0_2 0 3 0).bind fun t276 => (some t276)) = some r := by rw [if_pos rfl] at H; exact H
    clear H
    have H := H1
    clear H1
    replace H := Option.bind_eq_some_iff.mp H
    obtain ⟨t276, A80, H⟩ := H
    replace H : (some t276) = some r := H
    have A8 := A_ A80
    clear A80
    obtain rfl := Option.some.inj H
    go_enter Try.func107, Try.ntmps107
    go_wp2_with (first | ((with_reducible refine gate_dst (N := 1) rfl ?_); refine box_event ?hg (N := 1) ?hd (cs := #[.slice A0_0 l0_0.length c0_0, .int .i64 a0_1, .slice A0_2 l0_2.length c0_2, .int .i64 a0_3]) (t := 120) ?hr ?_; (case hd => rfl); (case hg => rfl); (case hr => exact Z11); intro gb272 hg w9 hbox hb; have n0_ := A_ (below_step Z0 hb); have n1_ := A_ (hbox); have n2_ := A_ ((by rw [hg]; exact (below_size Z0) : w.heap.size ≤ gb272)); have n3_ := A_ ((by rw [hg]; exact (below_size Z0) : w.heap.size ≤ gb272)); clear HB; have HB := n0_; have BK272 := n1_; have GW272 := n2_; have GE272 := n3_; clear n0_ n1_ n2_ n3_; clear hb hbox hg; have hcz10_0 : w9.cell? ⟨gb272, 0, none⟩ = some (.slice A0_0 l0_0.length c0_0) := (blk_cell BK272.out 0).trans rfl; have hcz10_1 : w9.cell? ⟨gb272, 1, none⟩ = some (.int .i64 a0_1) := (blk_cell BK272.out 1).trans rfl; have hcz10_2 : w9.cell? ⟨gb272, 2, none⟩ = some (.slice A0_2 l0_2.length c0_2) := (blk_cell BK272.out 2).trans rfl; have hcz10_3 : w9.cell? ⟨gb272, 3, none⟩ = some (.int .i64 a0_3) := (blk_cell BK272.out 3).trans rfl; have hfz10_0 := blk_frozen BK272.out 0; have hfz10_1 := blk_frozen BK272.out 1; have hfz10_2 := blk_frozen BK272.out 2; have hfz10_3 := blk_frozen BK272.out 3) | ((with_reducible refine gate_callee (f := 53) rfl ?_); refine goesL_ (some 5) rfl rfl Try.func53 (by kernel_rfl) rfl #[.slice A0_0 l0_0.length c0_0] rfl Z3 ?_; (with_reducible refine (impl_PlaceOk.calls k _ _ l0_0 true _ ?side1 ?side2 A2.out).mono ?_); (case side1 => exact Z6 HR0_0.out); (case side2 => exact HC0_0.out); rintro e w11 ⟨rfl, hb⟩; refine ⟨_, rfl, ?_⟩; have n0_ := A_ (blk_below (g := gb272) (o := .cells #[.slice A0_0 l0_0.length c0_0, .int .i64 a0_1, .slice A0_2 l0_2.length c0_2, .int .i64 a0_3] 120 (0, 0)) (Z2 BK272.out) hb); have n1_ := A_ (below_step (Z1 GE272.out) hb); clear BK272; clear HB; have BK272 := n0_; have HB := n1_; clear n0_ n1_; (try clear hb); (try clear hb2); (try clear hk); (try clear hi); have hcz12_0 : w11.cell? ⟨gb272, 0, none⟩ = some (.slice A0_0 l0_0.length c0_0) := (blk_cell BK272.out 0).trans rfl; have hcz12_1 : w11.cell? ⟨gb272, 1, none⟩ = some (.int .i64 a0_1) := (blk_cell BK272.out 1).trans rfl; have hcz12_2 : w11.cell? ⟨gb272, 2, none⟩ = some (.slice A0_2 l0_2.length c0_2) := (blk_cell BK272.out 2).trans rfl; have hcz12_3 : w11.cell? ⟨gb272, 3, none⟩ = some (.int .i64 a0_3) := (blk_cell BK272.out 3).trans rfl; have hfz12_0 := blk_frozen BK272.out 0; have hfz12_1 := blk_frozen BK272.out 1; have hfz12_2 := blk_frozen BK272.out 2; have hfz12_3 := blk_frozen BK272.out 3) | (go_at_call 52; (with_reducible refine (impl_within.calls a0_1 0 2 true _ A4.out).mono ?_); rintro e w' ⟨rfl, ⟨nd, rfl⟩⟩) | (go_at_call 52; (with_reducible refine (impl_within.calls a0_3 (-1) 2 true _ A6.out).mono ?_); rintro e w' ⟨rfl, ⟨nd, rfl⟩⟩) | (go_at_call 114; (with_reducible refine (impl_FormOk.calls k _ _ l0_2 0 3 0 t276 _ ?side1 ?side2 A8.out).mono ?_); (case side1 => exact Z44 HR0_2.out GE272.out); (case side2 => exact HC0_2.out); rintro e w13 ⟨rfl, hb⟩; have n0_ := A_ (blk_below (g := gb272) (o := .cells #[.slice A0_0 l0_0.length c0_0, .int .i64 a0_1, .slice A0_2 l0_2.length c0_2, .int .i64 a0_3] 120 (0, 0)) (Z2 BK272.out) hb); have n1_ := A_ (below_step (Z1 GE272.out) hb); clear BK272; clear HB; have BK272 := n0_; have HB := n1_; clear n0_ n1_; (try clear hb); (try clear hb2); (try clear hk); (try clear hi)))
    go_ret
    exact ⟨Z4, Z1 GE272.out⟩
   ·replace c7 := Bool.eq_false_iff.mpr c7
    subst c7
    have H1 : (some false) = some r := by rw [if_neg (show ¬ (false = true) by decide)] at H; exact H
    clear H
    have H := H1
    clear H1
    obtain rfl := Option.some.inj H
    go_enter Try.func107, Try.ntmps107
    go_wp2_with (first | ((with_reducible refine gate_dst (N := 1) rfl ?_); refine box_event ?hg (N := 1) ?hd (cs := #[.slice A0_0 l0_0.length c0_0, .int .i64 a0_1, .slice A0_2 l0_2.length c0_2, .int .i64 a0_3]) (t := 120) ?hr ?_; (case hd => rfl); (case hg => rfl); (case hr => exact Z11); intro gb272 hg w14 hbox hb; have n0_ := A_ (below_step Z0 hb); have n1_ := A_ (hbox); have n2_ := A_ ((by rw [hg]; exact (below_size Z0) : w.heap.size ≤ gb272)); have n3_ := A_ ((by rw [hg]; exact (below_size Z0) : w.heap.size ≤ gb272)); clear HB; have HB := n0_; have BK272 := n1_; have GW272 := n2_; have GE272 := n3_; clear n0_ n1_ n2_ n3_; clear hb hbox hg; have hcz15_0 : w14.cell? ⟨gb272, 0, none⟩ = some (.slice A0_0 l0_0.length c0_0) := (blk_cell BK272.out 0).trans rfl; have hcz15_1 : w14.cell? ⟨gb272, 1, none⟩ = some (.int .i64 a0_1) := (blk_cell BK272.out 1).trans rfl; have hcz15_2 : w14.cell? ⟨gb272, 2, none⟩ = some (.slice A0_2 l0_2.length c0_2) := (blk_cell BK272.out 2).trans rfl; have hcz15_3 : w14.cell? ⟨gb272, 3, none⟩ = some (.int .i64 a0_3) := (blk_cell BK272.out 3).trans rfl; have hfz15_0 := blk_frozen BK272.out 0; have hfz15_1 := blk_frozen BK272.out 1; have hfz15_2 := blk_frozen BK272.out 2; have hfz15_3 := blk_frozen BK272.out 3) | ((with_reducible refine gate_callee (f := 53) rfl ?_); refine goesL_ (some 5) rfl rfl Try.func53 (by kernel_rfl) rfl #[.slice A0_0 l0_0.length c0_0] rfl Z3 ?_; (with_reducible refine (impl_PlaceOk.calls k _ _ l0_0 true _ ?side1 ?side2 A2.out).mono ?_); (case side1 => exact Z6 HR0_0.out); (case side2 => exact HC0_0.out); rintro e w16 ⟨rfl, hb⟩; refine ⟨_, rfl, ?_⟩; have n0_ := A_ (blk_below (g := gb272) (o := .cells #[.slice A0_0 l0_0.length c0_0, .int .i64 a0_1, .slice A0_2 l0_2.length c0_2, .int .i64 a0_3] 120 (0, 0)) (Z2 BK272.out) hb); have n1_ := A_ (below_step (Z1 GE272.out) hb); clear BK272; clear HB; have BK272 := n0_; have HB := n1_; clear n0_ n1_; (try clear hb); (try clear hb2); (try clear hk); (try clear hi); have hcz17_0 : w16.cell? ⟨gb272, 0, none⟩ = some (.slice A0_0 l0_0.length c0_0) := (blk_cell BK272.out 0).trans rfl; have hcz17_1 : w16.cell? ⟨gb272, 1, none⟩ = some (.int .i64 a0_1) := (blk_cell BK272.out 1).trans rfl; have hcz17_2 : w16.cell? ⟨gb272, 2, none⟩ = some (.slice A0_2 l0_2.length c0_2) := (blk_cell BK272.out 2).trans rfl; have hcz17_3 : w16.cell? ⟨gb272, 3, none⟩ = some (.int .i64 a0_3) := (blk_cell BK272.out 3).trans rfl; have hfz17_0 := blk_frozen BK272.out 0; have hfz17_1 := blk_frozen BK272.out 1; have hfz17_2 := blk_frozen BK272.out 2; have hfz17_3 := blk_frozen BK272.out 3) | (go_at_call 52; (with_reducible refine (impl_within.calls a0_1 0 2 true _ A4.out).mono ?_); rintro e w' ⟨rfl, ⟨nd, rfl⟩⟩) | (go_at_call 52; (with_reducible refine (impl_within.calls a0_3 (-1) 2 false _ A6.out).mono ?_); rintro e w' ⟨rfl, ⟨nd, rfl⟩⟩))
    go_ret
    exact ⟨Z4, Z1 GE272.out⟩
  ·replace c5 := Bool.eq_false_iff.mpr c5
   subst c5
   have H1 : (some false) = some r := by rw [if_neg (show ¬ (false = true) by decide)] at H; exact H
   clear H
   have H := H1
   clear H1
   obtain rfl := Option.some.inj H
   go_enter Try.func107, Try.ntmps107
   go_wp2_with (first | ((with_reducible refine gate_dst (N := 1) rfl ?_); refine box_event ?hg (N := 1) ?hd (cs := #[.slice A0_0 l0_0.length c0_0, .int .i64 a0_1, .slice A0_2 l0_2.length c0_2, .int .i64 a0_3]) (t := 120) ?hr ?_; (case hd => rfl); (case hg => rfl); (case hr => exact Z11); intro gb272 hg w18 hbox hb; have n0_ := A_ (below_step Z0 hb); have n1_ := A_ (hbox); have n2_ := A_ ((by rw [hg]; exact (below_size Z0) : w.heap.size ≤ gb272)); have n3_ := A_ ((by rw [hg]; exact (below_size Z0) : w.heap.size ≤ gb272)); clear HB; have HB := n0_; have BK272 := n1_; have GW272 := n2_; have GE272 := n3_; clear n0_ n1_ n2_ n3_; clear hb hbox hg; have hcz19_0 : w18.cell? ⟨gb272, 0, none⟩ = some (.slice A0_0 l0_0.length c0_0) := (blk_cell BK272.out 0).trans rfl; have hcz19_1 : w18.cell? ⟨gb272, 1, none⟩ = some (.int .i64 a0_1) := (blk_cell BK272.out 1).trans rfl; have hcz19_2 : w18.cell? ⟨gb272, 2, none⟩ = some (.slice A0_2 l0_2.length c0_2) := (blk_cell BK272.out 2).trans rfl; have hcz19_3 : w18.cell? ⟨gb272, 3, none⟩ = some (.int .i64 a0_3) := (blk_cell BK272.out 3).trans rfl; have hfz19_0 := blk_frozen BK272.out 0; have hfz19_1 := blk_frozen BK272.out 1; have hfz19_2 := blk_frozen BK272.out 2; have hfz19_3 := blk_frozen BK272.out 3) | ((with_reducible refine gate_callee (f := 53) rfl ?_); refine goesL_ (some 5) rfl rfl Try.func53 (by kernel_rfl) rfl #[.slice A0_0 l0_0.length c0_0] rfl Z3 ?_; (with_reducible refine (impl_PlaceOk.calls k _ _ l0_0 true _ ?side1 ?side2 A2.out).mono ?_); (case side1 => exact Z6 HR0_0.out); (case side2 => exact HC0_0.out); rintro e w20 ⟨rfl, hb⟩; refine ⟨_, rfl, ?_⟩; have n0_ := A_ (blk_below (g := gb272) (o := .cells #[.slice A0_0 l0_0.length c0_0, .int .i64 a0_1, .slice A0_2 l0_2.length c0_2, .int .i64 a0_3] 120 (0, 0)) (Z2 BK272.out) hb); have n1_ := A_ (below_step (Z1 GE272.out) hb); clear BK272; clear HB; have BK272 := n0_; have HB := n1_; clear n0_ n1_; (try clear hb); (try clear hb2); (try clear hk); (try clear hi); have hcz21_0 : w20.cell? ⟨gb272, 0, none⟩ = some (.slice A0_0 l0_0.length c0_0) := (blk_cell BK272.out 0).trans rfl; have hcz21_1 : w20.cell? ⟨gb272, 1, none⟩ = some (.int .i64 a0_1) := (blk_cell BK272.out 1).trans rfl; have hcz21_2 : w20.cell? ⟨gb272, 2, none⟩ = some (.slice A0_2 l0_2.length c0_2) := (blk_cell BK272.out 2).trans rfl; have hcz21_3 : w20.cell? ⟨gb272, 3, none⟩ = some (.int .i64 a0_3) := (blk_cell BK272.out 3).trans rfl; have hfz21_0 := blk_frozen BK272.out 0; have hfz21_1 := blk_frozen BK272.out 1; have hfz21_2 := blk_frozen BK272.out 2; have hfz21_3 := blk_frozen BK272.out 3) | (go_at_call 52; (with_reducible refine (impl_within.calls a0_1 0 2 false _ A4.out).mono ?_); rintro e w' ⟨rfl, ⟨nd, rfl⟩⟩))
   go_ret
   exact ⟨Z4, Z1 GE272.out⟩
 ·replace c3 := Bool.eq_false_iff.mpr c3
  subst c3
  have H1 : (some false) = some r := by rw [if_neg (show ¬ (false = true) by decide)] at H; exact H
  clear H
  have H := H1
  clear H1
  obtain rfl := Option.some.inj H
  go_enter Try.func107, Try.ntmps107
  go_wp2_with (first | ((with_reducible refine gate_dst (N := 1) rfl ?_); refine box_event ?hg (N := 1) ?hd (cs := #[.slice A0_0 l0_0.length c0_0, .int .i64 a0_1, .slice A0_2 l0_2.length c0_2, .int .i64 a0_3]) (t := 120) ?hr ?_; (case hd => rfl); (case hg => rfl); (case hr => exact Z11); intro gb272 hg w22 hbox hb; have n0_ := A_ (below_step Z0 hb); have n1_ := A_ (hbox); have n2_ := A_ ((by rw [hg]; exact (below_size Z0) : w.heap.size ≤ gb272)); have n3_ := A_ ((by rw [hg]; exact (below_size Z0) : w.heap.size ≤ gb272)); clear HB; have HB := n0_; have BK272 := n1_; have GW272 := n2_; have GE272 := n3_; clear n0_ n1_ n2_ n3_; clear hb hbox hg; have hcz23_0 : w22.cell? ⟨gb272, 0, none⟩ = some (.slice A0_0 l0_0.length c0_0) := (blk_cell BK272.out 0).trans rfl; have hcz23_1 : w22.cell? ⟨gb272, 1, none⟩ = some (.int .i64 a0_1) := (blk_cell BK272.out 1).trans rfl; have hcz23_2 : w22.cell? ⟨gb272, 2, none⟩ = some (.slice A0_2 l0_2.length c0_2) := (blk_cell BK272.out 2).trans rfl; have hcz23_3 : w22.cell? ⟨gb272, 3, none⟩ = some (.int .i64 a0_3) := (blk_cell BK272.out 3).trans rfl; have hfz23_0 := blk_frozen BK272.out 0; have hfz23_1 := blk_frozen BK272.out 1; have hfz23_2 := blk_frozen BK272.out 2; have hfz23_3 := blk_frozen BK272.out 3) | ((with_reducible refine gate_callee (f := 53) rfl ?_); refine goesL_ (some 5) rfl rfl Try.func53 (by kernel_rfl) rfl #[.slice A0_0 l0_0.length c0_0] rfl Z3 ?_; (with_reducible refine (impl_PlaceOk.calls k _ _ l0_0 false _ ?side1 ?side2 A2.out).mono ?_); (case side1 => exact Z6 HR0_0.out); (case side2 => exact HC0_0.out); rintro e w24 ⟨rfl, hb⟩; refine ⟨_, rfl, ?_⟩; have n0_ := A_ (blk_below (g := gb272) (o := .cells #[.slice A0_0 l0_0.length c0_0, .int .i64 a0_1, .slice A0_2 l0_2.length c0_2, .int .i64 a0_3] 120 (0, 0)) (Z2 BK272.out) hb); have n1_ := A_ (below_step (Z1 GE272.out) hb); clear BK272; clear HB; have BK272 := n0_; have HB := n1_; clear n0_ n1_; (try clear hb); (try clear hb2); (try clear hk); (try clear hi)))
  go_ret
  exact ⟨Z4, Z1 GE272.out⟩
def impl_turnOk.j0 : Nat → Bool → Int → Int → List (S92) → Int → List (S137) → Int → List (S92) → Int → List (S137) → Int → Option (Bool)
 | 0, _, _, _, _, _, _, _, _, _, _, _ => none
 | k + 1, x4, x278000, x278001, x278002, x278003, x278004, x278005, x279000, x279001, x279002, x279003 => if x278000 = 0 then (if x278001 = 0 then ((impl_UpdateOk.f k x279000 x279001 x279002 x279003).bind fun t279 => (some t279)) else (some false)) else (if x278000 = 1 then ((impl_within.f x278001 0 300).bind fun t280 => (if t280 = true then (some x4) else (some false))) else (if x278000 = 2 then (if x278001 = 0 then (some x4) else (some false)) else (some false)))
def impl_turnOk.f (k : Nat) (a0_0 : Int) (a0_1 : Int) (l0_2 : List (S92)) (a0_3 : Int) (l0_4 : List (S137)) (a0_5 : Int) : Option (Bool) := if (l0_2.length : Int) = 0 then (if a0_3 = 0 then (if (l0_4.length : Int) = 0 then (impl_turnOk.j0 k (a0_5 == 0) a0_0 a0_1 l0_2 a0_3 l0_4 a0_5 l0_2 a0_3 l0_4 a0_5) else (impl_turnOk.j0 k false a0_0 a0_1 l0_2 a0_3 l0_4 a0_5 l0_2 a0_3 l0_4 a0_5)) else (impl_turnOk.j0 k false a0_0 a0_1 l0_2 a0_3 l0_4 a0_5 l0_2 a0_3 l0_4 a0_5)) else (impl_turnOk.j0 k false a0_0 a0_1 l0_2 a0_3 l0_4 a0_5 l0_2 a0_3 l0_4 a0_5)
theorem impl_turnOk.mono_l : ∀ k, (∀ y0 y1 y2 y3 y4 y5 y6 y7 y8 y9 y10, LeO (impl_turnOk.j0 k y0 y1 y2 y3 y4 y5 y6 y7 y8 y9 y10) (impl_turnOk.j0 (k + 1) y0 y1 y2 y3 y4 y5 y6 y7 y8 y9 y10))
 | 0 => fun _ _ _ _ _ _ _ _ _ _ _ r h => by simp [impl_turnOk.j0] at h
 | k + 1 => by
  have ih0 := impl_turnOk.mono_l k
  ·intro y0 y1 y2 y3 y4 y5 y6 y7 y8 y9 y10
   unfold impl_turnOk.j0
   repeat' first
   | (with_reducible exact ih0 _ _ _ _ _ _ _ _ _ _ _)
   | (with_reducible exact impl_UpdateOk.mono _ _ _ _ _)
   | (with_reducible exact LeO.refl _)
   | (with_reducible exact LeO.none _)
   | (with_reducible refine LeO.ite ?_ ?_)
   | (with_reducible refine LeO.bind ?_ (fun _ => ?_))
   | exact ih0 _ _ _ _ _ _ _ _ _ _ _
   | exact impl_UpdateOk.mono _ _ _ _ _
   | exact LeO.none _
   | refine LeO.ite ?_ ?_
   | refine LeO.bind ?_ (fun _ => ?_)
theorem impl_turnOk.mono : ∀ a0 a1 a2 a3 a4 a5 k, LeO (impl_turnOk.f k a0 a1 a2 a3 a4 a5) (impl_turnOk.f (k + 1) a0 a1 a2 a3 a4 a5) := by
 intro a0 a1 a2 a3 a4 a5 k
 have ih0 := impl_turnOk.mono_l k
 unfold impl_turnOk.f
 repeat' first
   | (with_reducible exact ih0 _ _ _ _ _ _ _ _ _ _ _)
   | (with_reducible exact impl_UpdateOk.mono _ _ _ _ _)
   | (with_reducible exact LeO.refl _)
   | (with_reducible exact LeO.none _)
   | (with_reducible refine LeO.ite ?_ ?_)
   | (with_reducible refine LeO.bind ?_ (fun _ => ?_))
   | exact ih0 _ _ _ _ _ _ _ _ _ _ _
   | exact impl_UpdateOk.mono _ _ _ _ _
   | exact LeO.none _
   | refine LeO.ite ?_ ?_
   | refine LeO.bind ?_ (fun _ => ?_)
set_option maxHeartbeats 8000000 in
set_option maxRecDepth 100000 in
theorem impl_turnOk.calls (k : Nat) (a0_0 : Int) (a0_1 : Int) (A0_2 : Option Addr) (c0_2 : Nat) (l0_2 : List (S92)) (a0_3 : Int) (A0_4 : Option Addr) (c0_4 : Nat) (l0_4 : List (S137)) (a0_5 : Int) (r : Bool) (w : World) (hr0_2 : Kd.C k92 w A0_2 l0_2.length l0_2) (hc0_2 : l0_2.length ≤ c0_2) (hr0_4 : Kd.C k137 w A0_4 l0_4.length l0_4) (hc0_4 : l0_4.length ≤ c0_4) (h : impl_turnOk.f k a0_0 a0_1 l0_2 a0_3 l0_4 a0_5 = some r) :
  Calls Try.prog 99 #[.agg #[.int .i64 a0_0, .int .i64 a0_1, .slice A0_2 l0_2.length c0_2, .int .i64 a0_3, .slice A0_4 l0_4.length c0_4, .int .i64 a0_5]] w fun e w' => e = .returned (.bool r) ∧ Below w.heap.size w w' := by
 have hu122 := Try.underlying122
 have hu120 := Try.underlying120
 have HR0_2 := A_ hr0_2
 have HC0_2 := A_ hc0_2
 clear hr0_2 hc0_2
 have HR0_4 := A_ hr0_4
 have HC0_4 := A_ hc0_4
 clear hr0_4 hc0_4
 have HB := A_ (Below.refl w.heap.size w)
 have H : (if (l0_2.length : Int) = 0 then (if a0_3 = 0 then (if (l0_4.length : Int) = 0 then (impl_turnOk.j0 k (a0_5 == 0) a0_0 a0_1 l0_2 a0_3 l0_4 a0_5 l0_2 a0_3 l0_4 a0_5) else (impl_turnOk.j0 k false a0_0 a0_1 l0_2 a0_3 l0_4 a0_5 l0_2 a0_3 l0_4 a0_5)) else (impl_turnOk.j0 k false a0_0 a0_1 l0_2 a0_3 l0_4 a0_5 l0_2 a0_3 l0_4 a0_5)) else (impl_turnOk.j0 k false a0_0 a0_1 l0_2 a0_3 l0_4 a0_5 l0_2 a0_3 l0_4 a0_5)) = some r := h
 clear h
 have HC2 := A_ H
 clear H
 go_enter Try.func99, Try.ntmps99
 go_upto_region 2 with (first | ((with_reducible refine gate_dst (N := 1) rfl ?_); (try (refine gate_guard (by rfl) ?_; dsimp only)); refine box_event ?hg (N := 1) ?hd (cs := #[.int .i64 a0_0, .int .i64 a0_1, .slice A0_2 l0_2.length c0_2, .int .i64 a0_3, .slice A0_4 l0_4.length c0_4, .int .i64 a0_5]) (t := 122) ?hr ?_; (case hd => rfl); (case hg => rfl); (case hr => exact Z11); intro gb277 hg w3 hbox hb; have n0_ := A_ (below_step Z0 hb); have n1_ := A_ (hbox); have n2_ := A_ ((by rw [hg]; exact (below_size Z0) : w.heap.size ≤ gb277)); have n3_ := A_ ((by rw [hg]; exact (below_size Z0) : w.heap.size ≤ gb277)); clear HB; have HB := n0_; have BK277 := n1_; have GW277 := n2_; have GE277 := n3_; clear n0_ n1_ n2_ n3_; clear hb hbox hg; have hcz4_0 : w3.cell? ⟨gb277, 0, none⟩ = some (.int .i64 a0_0) := (blk_cell BK277.out 0).trans rfl; have hcz4_1 : w3.cell? ⟨gb277, 1, none⟩ = some (.int .i64 a0_1) := (blk_cell BK277.out 1).trans rfl; have hcz4_2 : w3.cell? ⟨gb277, 2, none⟩ = some (.slice A0_2 l0_2.length c0_2) := (blk_cell BK277.out 2).trans rfl; have hcz4_3 : w3.cell? ⟨gb277, 3, none⟩ = some (.int .i64 a0_3) := (blk_cell BK277.out 3).trans rfl; have hcz4_4 : w3.cell? ⟨gb277, 4, none⟩ = some (.slice A0_4 l0_4.length c0_4) := (blk_cell BK277.out 4).trans rfl; have hcz4_5 : w3.cell? ⟨gb277, 5, none⟩ = some (.int .i64 a0_5) := (blk_cell BK277.out 5).trans rfl; have hfz4_0 := blk_frozen BK277.out 0; have hfz4_1 := blk_frozen BK277.out 1; have hfz4_2 := blk_frozen BK277.out 2; have hfz4_3 := blk_frozen BK277.out 3; have hfz4_4 := blk_frozen BK277.out 4; have hfz4_5 := blk_frozen BK277.out 5) | ((with_reducible refine gate_dst (N := 3) rfl ?_); (try (refine gate_guard (by rfl) ?_; dsimp only)); refine box_event ?hg (N := 3) ?hd (cs := #[.slice none 0 0, .int .i64 0, .slice none 0 0, .int .i64 0]) (t := 120) ?hr ?_; (case hd => rfl); (case hg => rfl); (case hr => exact Z11); intro gb278 hg w5 hbox hb; have n0_ := A_ (blk_below (g := gb277) (o := .cells #[.int .i64 a0_0, .int .i64 a0_1, .slice A0_2 l0_2.length c0_2, .int .i64 a0_3, .slice A0_4 l0_4.length c0_4, .int .i64 a0_5] 122 (0, 0)) (Z2 BK277.out) hb); have n1_ := A_ (below_step (Z1 GE277.out) hb); have n2_ := A_ (hbox); have n3_ := A_ ((by rw [hg]; exact (below_size (Z1 GE277.out)) : w.heap.size ≤ gb278)); have n4_ := A_ ((by rw [hg]; exact (below_size (Z1 GE277.out)) : w.heap.size ≤ gb278)); have n5_ := A_ ((by rw [hg]; exact Nat.ne_of_lt (blk_lt (g := gb277) (o := .cells #[.int .i64 a0_0, .int .i64 a0_1, .slice A0_2 l0_2.length c0_2, .int .i64 a0_3, .slice A0_4 l0_4.length c0_4, .int .i64 a0_5] 122 (0, 0)) (Z2 BK277.out)) : gb277 ≠ gb278)); have n6_ := A_ ((by rw [hg]; exact Nat.ne_of_gt (blk_lt (g := gb277) (o := .cells #[.int .i64 a0_0, .int .i64 a0_1, .slice A0_2 l0_2.length c0_2, .int .i64 a0_3, .slice A0_4 l0_4.length c0_4, .int .i64 a0_5] 122 (0, 0)) (Z2 BK277.out)) : gb278 ≠ gb277)); clear BK277; clear HB; have BK277 := n0_; have HB := n1_; have BK278 := n2_; have GW278 := n3_; have GE278 := n4_; have NB277_278 := n5_; have NB278_277 := n6_; clear n0_ n1_ n2_ n3_ n4_ n5_ n6_; clear hb hbox hg; have hnb6 := NB278_277.out; have hnc6 := NB277_278.out; have hcz7_0 : w5.cell? ⟨gb278, 0, none⟩ = some (.slice none 0 0) := (blk_cell BK278.out 0).trans rfl; have hcz7_1 : w5.cell? ⟨gb278, 1, none⟩ = some (.int .i64 0) := (blk_cell BK278.out 1).trans rfl; have hcz7_2 : w5.cell? ⟨gb278, 2, none⟩ = some (.slice none 0 0) := (blk_cell BK278.out 2).trans rfl; have hcz7_3 : w5.cell? ⟨gb278, 3, none⟩ = some (.int .i64 0) := (blk_cell BK278.out 3).trans rfl; have hfz7_0 := blk_frozen BK278.out 0; have hfz7_1 := blk_frozen BK278.out 1; have hfz7_2 := blk_frozen BK278.out 2; have hfz7_3 := blk_frozen BK278.out 3))
 (try simp only [Act.put, List.setIfInBounds_toArray, List.set_cons_zero, List.set_cons_succ])
 go_cut [4] (fun v4 wc => ∃ (kq : Nat) (x4_1 : Bool), v4 = .bool x4_1 ∧ Aside0 (impl_turnOk.j0 kq x4_1 a0_0 a0_1 l0_2 a0_3 l0_4 a0_5 l0_2 a0_3 l0_4 a0_5 = some r) ∧ Aside0 (kq ≤ k) ∧ Aside0 (wc.heap[gb277]? = some (.cells #[.int .i64 a0_0, .int .i64 a0_1, (.slice A0_2 l0_2.length c0_2), .int .i64 a0_3, (.slice A0_4 l0_4.length c0_4), .int .i64 a0_5] 122 (0, 0))) ∧ Aside0 (wc.heap[gb278]? = some (.cells #[(.slice A0_2 l0_2.length c0_2), .int .i64 a0_3, (.slice A0_4 l0_4.length c0_4), .int .i64 a0_5] 120 (0, 0))) ∧ Aside0 (Below w.heap.size w wc))
 case first =>
  have H := HC2.out
  clear HC2
  by_cases c8 : (l0_2.length : Int) = 0
  ·rw [if_pos c8] at H
   have c8b0 : ((l0_2.length : Int) == 0) = true := beq_iff_eq.mpr c8
   have c8b1 : ((l0_2.length : Int) != 0) = false := bne_eq_false_iff_eq.mpr c8
   clear c8
   (first | rw [c8b0] | (simp only [i64_w, i32_w]; rw [c8b0]) | skip)
   by_cases c9 : a0_3 = 0
   ·rw [if_pos c9] at H
    have c9b0 : (a0_3 == 0) = true := beq_iff_eq.mpr c9
    have c9b1 : (a0_3 != 0) = false := bne_eq_false_iff_eq.mpr c9
    clear c9
    by_cases c10 : (l0_4.length : Int) = 0
    ·rw [if_pos c10] at H
     have c10b0 : ((l0_4.length : Int) == 0) = true := beq_iff_eq.mpr c10
     have c10b1 : ((l0_4.length : Int) != 0) = false := bne_eq_false_iff_eq.mpr c10
     clear c10
     have H' := A_ H
     clear H
     have hnb11 := NB278_277.out
     have hnc11 := NB277_278.out
     have hcz12_0 : w5.cell? ⟨gb278, 0, none⟩ = some (.slice none 0 0) := (blk_cell BK278.out 0).trans rfl
     have hcz12_1 : w5.cell? ⟨gb278, 1, none⟩ = some (.int .i64 0) := (blk_cell BK278.out 1).trans rfl
     have hcz12_2 : w5.cell? ⟨gb278, 2, none⟩ = some (.slice none 0 0) := (blk_cell BK278.out 2).trans rfl
     have hcz12_3 : w5.cell? ⟨gb278, 3, none⟩ = some (.int .i64 0) := (blk_cell BK278.out 3).trans rfl
     have hfz12_0 := blk_frozen BK278.out 0
     have hfz12_1 := blk_frozen BK278.out 1
     have hfz12_2 := blk_frozen BK278.out 2
     have hfz12_3 := blk_frozen BK278.out 3
     go_wp2
     go_meet
     case rel => exact ⟨_, ((a0_5 == 0)), Z12, H', ⟨by first | omega | exact Nat.le_refl _⟩, ⟨Z34 NB277_278.out BK277.out⟩, ⟨Z33 BK278.out⟩, ⟨Z5 GE277.out GE278.out⟩⟩
    ·rw [if_neg c10] at H
     have c10b0 : ((l0_4.length : Int) == 0) = false := beq_eq_false_iff_ne.mpr c10
     have c10b1 : ((l0_4.length : Int) != 0) = true := bne_iff_ne.mpr c10
     have c10b2 : ¬ (l0_4 = []) := fun h_ => c10 (by rw [h_]; rfl)
     have H' := A_ H
     clear H
     have hnb13 := NB278_277.out
     have hnc13 := NB277_278.out
     have hcz14_0 : w5.cell? ⟨gb278, 0, none⟩ = some (.slice none 0 0) := (blk_cell BK278.out 0).trans rfl
     have hcz14_1 : w5.cell? ⟨gb278, 1, none⟩ = some (.int .i64 0) := (blk_cell BK278.out 1).trans rfl
     have hcz14_2 : w5.cell? ⟨gb278, 2, none⟩ = some (.slice none 0 0) := (blk_cell BK278.out 2).trans rfl
     have hcz14_3 : w5.cell? ⟨gb278, 3, none⟩ = some (.int .i64 0) := (blk_cell BK278.out 3).trans rfl
     have hfz14_0 := blk_frozen BK278.out 0
     have hfz14_1 := blk_frozen BK278.out 1
     have hfz14_2 := blk_frozen BK278.out 2
     have hfz14_3 := blk_frozen BK278.out 3
     go_wp2
     go_meet
     case rel => exact ⟨_, (false), Z12, H', ⟨by first | omega | exact Nat.le_refl _⟩, ⟨Z34 NB277_278.out BK277.out⟩, ⟨Z33 BK278.out⟩, ⟨Z5 GE277.out GE278.out⟩⟩
   ·rw [if_neg c9] at H
    have c9b0 : (a0_3 == 0) = false := beq_eq_false_iff_ne.mpr c9
    have c9b1 : (a0_3 != 0) = true := bne_iff_ne.mpr c9
    have H' := A_ H
    clear H
    have hnb15 := NB278_277.out
    have hnc15 := NB277_278.out
    have hcz16_0 : w5.cell? ⟨gb278, 0, none⟩ = some (.slice none 0 0) := (blk_cell BK278.out 0).trans rfl
    have hcz16_1 : w5.cell? ⟨gb278, 1, none⟩ = some (.int .i64 0) := (blk_cell BK278.out 1).trans rfl
    have hcz16_2 : w5.cell? ⟨gb278, 2, none⟩ = some (.slice none 0 0) := (blk_cell BK278.out 2).trans rfl
    have hcz16_3 : w5.cell? ⟨gb278, 3, none⟩ = some (.int .i64 0) := (blk_cell BK278.out 3).trans rfl
    have hfz16_0 := blk_frozen BK278.out 0
    have hfz16_1 := blk_frozen BK278.out 1
    have hfz16_2 := blk_frozen BK278.out 2
    have hfz16_3 := blk_frozen BK278.out 3
    go_wp2
    go_meet
    case rel => exact ⟨_, (false), Z12, H', ⟨by first | omega | exact Nat.le_refl _⟩, ⟨Z34 NB277_278.out BK277.out⟩, ⟨Z33 BK278.out⟩, ⟨Z5 GE277.out GE278.out⟩⟩
  ·rw [if_neg c8] at H
   have c8b0 : ((l0_2.length : Int) == 0) = false := beq_eq_false_iff_ne.mpr c8
   have c8b1 : ((l0_2.length : Int) != 0) = true := bne_iff_ne.mpr c8
   have c8b2 : ¬ (l0_2 = []) := fun h_ => c8 (by rw [h_]; rfl)
   (first | rw [c8b0] | (simp only [i64_w, i32_w]; rw [c8b0]) | skip)
   have H' := A_ H
   clear H
   have hnb17 := NB278_277.out
   have hnc17 := NB277_278.out
   have hcz18_0 : w5.cell? ⟨gb278, 0, none⟩ = some (.slice none 0 0) := (blk_cell BK278.out 0).trans rfl
   have hcz18_1 : w5.cell? ⟨gb278, 1, none⟩ = some (.int .i64 0) := (blk_cell BK278.out 1).trans rfl
   have hcz18_2 : w5.cell? ⟨gb278, 2, none⟩ = some (.slice none 0 0) := (blk_cell BK278.out 2).trans rfl
   have hcz18_3 : w5.cell? ⟨gb278, 3, none⟩ = some (.int .i64 0) := (blk_cell BK278.out 3).trans rfl
   have hfz18_0 := blk_frozen BK278.out 0
   have hfz18_1 := blk_frozen BK278.out 1
   have hfz18_2 := blk_frozen BK278.out 2
   have hfz18_3 := blk_frozen BK278.out 3
   go_wp2
   go_meet
   case rel => exact ⟨_, (false), Z12, H', ⟨by first | omega | exact Nat.le_refl _⟩, ⟨Z34 NB277_278.out BK277.out⟩, ⟨Z33 BK278.out⟩, ⟨Z5 GE277.out GE278.out⟩⟩
 case rest =>
  clear HC2
  try clear c1
  try clear p2
  try clear c6
  try clear c8
  try clear c8b0
  try clear c8b1
  try clear c8b2
  try clear c9
  try clear c9b0
  try clear c9b1
  try clear c10
  try clear c10b0
  try clear c10b1
  try clear c10b2
  try clear c11
  try clear c13
  try clear c15
  try clear c17
  try clear hcz12_0
  try clear hcz12_1
  try clear hcz12_2
  try clear hcz12_3
  try clear hcz14_0
  try clear hcz14_1
  try clear hcz14_2
  try clear hcz14_3
  try clear hcz16_0
  try clear hcz16_1
  try clear hcz16_2
  try clear hcz16_3
  try clear hcz18_0
  try clear hcz18_1
  try clear hcz18_2
  try clear hcz18_3
  try clear hcz4_0
  try clear hcz4_1
  try clear hcz4_2
  try clear hcz4_3
  try clear hcz4_4
  try clear hcz4_5
  try clear hcz7_0
  try clear hcz7_1
  try clear hcz7_2
  try clear hcz7_3
  try clear hfz12_0
  try clear hfz12_1
  try clear hfz12_2
  try clear hfz12_3
  try clear hfz14_0
  try clear hfz14_1
  try clear hfz14_2
  try clear hfz14_3
  try clear hfz16_0
  try clear hfz16_1
  try clear hfz16_2
  try clear hfz16_3
  try clear hfz18_0
  try clear hfz18_1
  try clear hfz18_2
  try clear hfz18_3
  try clear hfz4_0
  try clear hfz4_1
  try clear hfz4_2
  try clear hfz4_3
  try clear hfz4_4
  try clear hfz4_5
  try clear hfz7_0
  try clear hfz7_1
  try clear hfz7_2
  try clear hfz7_3
  obtain ⟨kq, x4_1, rfl, HA, HJ1, BK277, BK278, HB⟩ := hcut
  cases kq with
  | zero => exact absurd HA.out (by simp [impl_turnOk.j0])
  | succ kj1 =>
   have H := HA.out
   clear HA
   simp only [impl_turnOk.j0] at H
   by_cases c19 : a0_0 = 0
   ·rw [if_pos c19] at H
    have c19b0 : (a0_0 == 0) = true := beq_iff_eq.mpr c19
    have c19b1 : (a0_0 != 0) = false := bne_eq_false_iff_eq.mpr c19
    clear c19
    by_cases c20 : a0_1 = 0
    ·rw [if_pos c20] at H
     have c20b0 : (a0_1 == 0) = true := beq_iff_eq.mpr c20
     have c20b1 : (a0_1 != 0) = false := bne_eq_false_iff_eq.mpr c20
     clear c20
     replace H := Option.bind_eq_some_iff.mp H
     obtain ⟨t279, A210, H⟩ := H
     replace H : (some t279) = some r := H
     have A21 := A_ A210
     clear A210
     obtain rfl := Option.some.inj H
     have hnb22 := NB277_278.out
     have hnc22 := NB278_277.out
     have hcz23_0 : wc.cell? ⟨gb277, 0, none⟩ = some (.int .i64 a0_0) := (blk_cell BK277.out 0).trans rfl
     have hcz23_1 : wc.cell? ⟨gb277, 1, none⟩ = some (.int .i64 a0_1) := (blk_cell BK277.out 1).trans rfl
     have hcz23_2 : wc.cell? ⟨gb277, 2, none⟩ = some (.slice A0_2 l0_2.length c0_2) := (blk_cell BK277.out 2).trans rfl
     have hcz23_3 : wc.cell? ⟨gb277, 3, none⟩ = some (.int .i64 a0_3) := (blk_cell BK277.out 3).trans rfl
     have hcz23_4 : wc.cell? ⟨gb277, 4, none⟩ = some (.slice A0_4 l0_4.length c0_4) := (blk_cell BK277.out 4).trans rfl
     have hcz23_5 : wc.cell? ⟨gb277, 5, none⟩ = some (.int .i64 a0_5) := (blk_cell BK277.out 5).trans rfl
     have hfz23_0 := blk_frozen BK277.out 0
     have hfz23_1 := blk_frozen BK277.out 1
     have hfz23_2 := blk_frozen BK277.out 2
     have hfz23_3 := blk_frozen BK277.out 3
     have hfz23_4 := blk_frozen BK277.out 4
     have hfz23_5 := blk_frozen BK277.out 5
     have hcz24_0 : wc.cell? ⟨gb278, 0, none⟩ = some (.slice A0_2 l0_2.length c0_2) := (blk_cell BK278.out 0).trans rfl
     have hcz24_1 : wc.cell? ⟨gb278, 1, none⟩ = some (.int .i64 a0_3) := (blk_cell BK278.out 1).trans rfl
     have hcz24_2 : wc.cell? ⟨gb278, 2, none⟩ = some (.slice A0_4 l0_4.length c0_4) := (blk_cell BK278.out 2).trans rfl
     have hcz24_3 : wc.cell? ⟨gb278, 3, none⟩ = some (.int .i64 a0_5) := (blk_cell BK278.out 3).trans rfl
     have hfz24_0 := blk_frozen BK278.out 0
     have hfz24_1 := blk_frozen BK278.out 1
     have hfz24_2 := blk_frozen BK278.out 2
     have hfz24_3 := blk_frozen BK278.out 3
     go_wp2_with (first | (go_at_call 107; (with_reducible refine (impl_UpdateOk.calls kj1 _ _ l0_2 a0_3 _ _ l0_4 a0_5 t279 _ ?side1 ?side2 ?side3 ?side4 A21.out).mono ?_); (case side1 => exact Z6 HR0_2.out); (case side2 => exact HC0_2.out); (case side3 => exact Z6 HR0_4.out); (case side4 => exact HC0_4.out); rintro e w25 ⟨rfl, hb⟩; have n0_ := A_ (blk_below (g := gb277) (o := .cells #[.int .i64 a0_0, .int .i64 a0_1, .slice A0_2 l0_2.length c0_2, .int .i64 a0_3, .slice A0_4 l0_4.length c0_4, .int .i64 a0_5] 122 (0, 0)) (Z2 BK277.out) hb); have n1_ := A_ (blk_below (g := gb278) (o := .cells #[.slice A0_2 l0_2.length c0_2, .int .i64 a0_3, .slice A0_4 l0_4.length c0_4, .int .i64 a0_5] 120 (0, 0)) (Z2 BK278.out) hb); have n2_ := A_ (below_step (Z5 GE277.out GE278.out) hb); clear BK277; clear BK278; clear HB; have BK277 := n0_; have BK278 := n1_; have HB := n2_; clear n0_ n1_ n2_; (try clear hb); (try clear hb2); (try clear hk); (try clear hi)))
     go_ret
     exact ⟨Z4, Z5 GE277.out GE278.out⟩
    ·rw [if_neg c20] at H
     have c20b0 : (a0_1 == 0) = false := beq_eq_false_iff_ne.mpr c20
     have c20b1 : (a0_1 != 0) = true := bne_iff_ne.mpr c20
     obtain rfl := Option.some.inj H
     have hnb26 := NB277_278.out
     have hnc26 := NB278_277.out
     have hcz27_0 : wc.cell? ⟨gb277, 0, none⟩ = some (.int .i64 a0_0) := (blk_cell BK277.out 0).trans rfl
     have hcz27_1 : wc.cell? ⟨gb277, 1, none⟩ = some (.int .i64 a0_1) := (blk_cell BK277.out 1).trans rfl
     have hcz27_2 : wc.cell? ⟨gb277, 2, none⟩ = some (.slice A0_2 l0_2.length c0_2) := (blk_cell BK277.out 2).trans rfl
     have hcz27_3 : wc.cell? ⟨gb277, 3, none⟩ = some (.int .i64 a0_3) := (blk_cell BK277.out 3).trans rfl
     have hcz27_4 : wc.cell? ⟨gb277, 4, none⟩ = some (.slice A0_4 l0_4.length c0_4) := (blk_cell BK277.out 4).trans rfl
     have hcz27_5 : wc.cell? ⟨gb277, 5, none⟩ = some (.int .i64 a0_5) := (blk_cell BK277.out 5).trans rfl
     have hfz27_0 := blk_frozen BK277.out 0
     have hfz27_1 := blk_frozen BK277.out 1
     have hfz27_2 := blk_frozen BK277.out 2
     have hfz27_3 := blk_frozen BK277.out 3
     have hfz27_4 := blk_frozen BK277.out 4
     have hfz27_5 := blk_frozen BK277.out 5
     go_wp2
     go_ret
     exact ⟨Z4, Z5 GE277.out GE278.out⟩
   ·rw [if_neg c19] at H
    have c19b0 : (a0_0 == 0) = false := beq_eq_false_iff_ne.mpr c19
    have c19b1 : (a0_0 != 0) = true := bne_iff_ne.mpr c19
    by_cases c28 : a0_0 = 1
    ·rw [if_pos c28] at H
     have c28b0 : (a0_0 == 1) = true := beq_iff_eq.mpr c28
     have c28b1 : (a0_0 != 1) = false := bne_eq_false_iff_eq.mpr c28
     clear c28
     replace H := Option.bind_eq_some_iff.mp H
     obtain ⟨t280, A290, H⟩ := H
     replace H : (if t280 = true then (some x4_1) else (some false)) = some r := H
     have A29 := A_ A290
     clear A290
     by_cases c30 : t280 = true
     ·subst c30
      have H1 : (some x4_1) = some r := by rw [if_pos rfl] at H; exact H
      clear H
      have H := H1
      clear H1
      obtain rfl := Option.some.inj H
      have hnb31 := NB277_278.out
      have hnc31 := NB278_277.out
      have hcz32_0 : wc.cell? ⟨gb277, 0, none⟩ = some (.int .i64 a0_0) := (blk_cell BK277.out 0).trans rfl
      have hcz32_1 : wc.cell? ⟨gb277, 1, none⟩ = some (.int .i64 a0_1) := (blk_cell BK277.out 1).trans rfl
      have hcz32_2 : wc.cell? ⟨gb277, 2, none⟩ = some (.slice A0_2 l0_2.length c0_2) := (blk_cell BK277.out 2).trans rfl
      have hcz32_3 : wc.cell? ⟨gb277, 3, none⟩ = some (.int .i64 a0_3) := (blk_cell BK277.out 3).trans rfl
      have hcz32_4 : wc.cell? ⟨gb277, 4, none⟩ = some (.slice A0_4 l0_4.length c0_4) := (blk_cell BK277.out 4).trans rfl
      have hcz32_5 : wc.cell? ⟨gb277, 5, none⟩ = some (.int .i64 a0_5) := (blk_cell BK277.out 5).trans rfl
      have hfz32_0 := blk_frozen BK277.out 0
      have hfz32_1 := blk_frozen BK277.out 1
      have hfz32_2 := blk_frozen BK277.out 2
      have hfz32_3 := blk_frozen BK277.out 3
      have hfz32_4 := blk_frozen BK277.out 4
      have hfz32_5 := blk_frozen BK277.out 5
      go_wp2_with (first | ((with_reducible refine gate_callee (f := 52) rfl ?_); refine goesL_ (some 42) rfl rfl Try.func52 (by kernel_rfl) rfl #[.int .i64 a0_1, .int .i64 0, .int .i64 300] rfl Z3 ?_; (with_reducible refine (impl_within.calls a0_1 0 300 true _ A29.out).mono ?_); rintro e w' ⟨rfl, ⟨nd, rfl⟩⟩; refine ⟨_, rfl, ?_⟩))
      go_ret
      exact ⟨Z4, Z5 GE277.out GE278.out⟩
     ·replace c30 := Bool.eq_false_iff.mpr c30
      subst c30
      have H1 : (some false) = some r := by rw [if_neg (show ¬ (false = true) by decide)] at H; exact H
      clear H
      have H := H1
      clear H1
      obtain rfl := Option.some.inj H
      have hnb33 := NB277_278.out
      have hnc33 := NB278_277.out
      have hcz34_0 : wc.cell? ⟨gb277, 0, none⟩ = some (.int .i64 a0_0) := (blk_cell BK277.out 0).trans rfl
      have hcz34_1 : wc.cell? ⟨gb277, 1, none⟩ = some (.int .i64 a0_1) := (blk_cell BK277.out 1).trans rfl
      have hcz34_2 : wc.cell? ⟨gb277, 2, none⟩ = some (.slice A0_2 l0_2.length c0_2) := (blk_cell BK277.out 2).trans rfl
      have hcz34_3 : wc.cell? ⟨gb277, 3, none⟩ = some (.int .i64 a0_3) := (blk_cell BK277.out 3).trans rfl
      have hcz34_4 : wc.cell? ⟨gb277, 4, none⟩ = some (.slice A0_4 l0_4.length c0_4) := (blk_cell BK277.out 4).trans rfl
      have hcz34_5 : wc.cell? ⟨gb277, 5, none⟩ = some (.int .i64 a0_5) := (blk_cell BK277.out 5).trans rfl
      have hfz34_0 := blk_frozen BK277.out 0
      have hfz34_1 := blk_frozen BK277.out 1
      have hfz34_2 := blk_frozen BK277.out 2
      have hfz34_3 := blk_frozen BK277.out 3
      have hfz34_4 := blk_frozen BK277.out 4
      have hfz34_5 := blk_frozen BK277.out 5
      go_wp2_with (first | ((with_reducible refine gate_callee (f := 52) rfl ?_); refine goesL_ (some 42) rfl rfl Try.func52 (by kernel_rfl) rfl #[.int .i64 a0_1, .int .i64 0, .int .i64 300] rfl Z3 ?_; (with_reducible refine (impl_within.calls a0_1 0 300 false _ A29.out).mono ?_); rintro e w' ⟨rfl, ⟨nd, rfl⟩⟩; refine ⟨_, rfl, ?_⟩))
      go_ret
      exact ⟨Z4, Z5 GE277.out GE278.out⟩
    ·rw [if_neg c28] at H
     have c28b0 : (a0_0 == 1) = false := beq_eq_false_iff_ne.mpr c28
     have c28b1 : (a0_0 != 1) = true := bne_iff_ne.mpr c28
     by_cases c35 : a0_0 = 2
     ·rw [if_pos c35] at H
      have c35b0 : (a0_0 == 2) = true := beq_iff_eq.mpr c35
      have c35b1 : (a0_0 != 2) = false := bne_eq_false_iff_eq.mpr c35
      clear c35
      by_cases c36 : a0_1 = 0
      ·rw [if_pos c36] at H
       have c36b0 : (a0_1 == 0) = true := beq_iff_eq.mpr c36
       have c36b1 : (a0_1 != 0) = false := bne_eq_false_iff_eq.mpr c36
       clear c36
       obtain rfl := Option.some.inj H
       have hnb37 := NB277_278.out
       have hnc37 := NB278_277.out
       have hcz38_0 : wc.cell? ⟨gb277, 0, none⟩ = some (.int .i64 a0_0) := (blk_cell BK277.out 0).trans rfl
       have hcz38_1 : wc.cell? ⟨gb277, 1, none⟩ = some (.int .i64 a0_1) := (blk_cell BK277.out 1).trans rfl
       have hcz38_2 : wc.cell? ⟨gb277, 2, none⟩ = some (.slice A0_2 l0_2.length c0_2) := (blk_cell BK277.out 2).trans rfl
       have hcz38_3 : wc.cell? ⟨gb277, 3, none⟩ = some (.int .i64 a0_3) := (blk_cell BK277.out 3).trans rfl
       have hcz38_4 : wc.cell? ⟨gb277, 4, none⟩ = some (.slice A0_4 l0_4.length c0_4) := (blk_cell BK277.out 4).trans rfl
       have hcz38_5 : wc.cell? ⟨gb277, 5, none⟩ = some (.int .i64 a0_5) := (blk_cell BK277.out 5).trans rfl
       have hfz38_0 := blk_frozen BK277.out 0
       have hfz38_1 := blk_frozen BK277.out 1
       have hfz38_2 := blk_frozen BK277.out 2
       have hfz38_3 := blk_frozen BK277.out 3
       have hfz38_4 := blk_frozen BK277.out 4
       have hfz38_5 := blk_frozen BK277.out 5
       go_wp2
       go_ret
       exact ⟨Z4, Z5 GE277.out GE278.out⟩
      ·rw [if_neg c36] at H
       have c36b0 : (a0_1 == 0) = false := beq_eq_false_iff_ne.mpr c36
       have c36b1 : (a0_1 != 0) = true := bne_iff_ne.mpr c36
       obtain rfl := Option.some.inj H
       have hnb39 := NB277_278.out
       have hnc39 := NB278_277.out
       have hcz40_0 : wc.cell? ⟨gb277, 0, none⟩ = some (.int .i64 a0_0) := (blk_cell BK277.out 0).trans rfl
       have hcz40_1 : wc.cell? ⟨gb277, 1, none⟩ = some (.int .i64 a0_1) := (blk_cell BK277.out 1).trans rfl
       have hcz40_2 : wc.cell? ⟨gb277, 2, none⟩ = some (.slice A0_2 l0_2.length c0_2) := (blk_cell BK277.out 2).trans rfl
       have hcz40_3 : wc.cell? ⟨gb277, 3, none⟩ = some (.int .i64 a0_3) := (blk_cell BK277.out 3).trans rfl
       have hcz40_4 : wc.cell? ⟨gb277, 4, none⟩ = some (.slice A0_4 l0_4.length c0_4) := (blk_cell BK277.out 4).trans rfl
       have hcz40_5 : wc.cell? ⟨gb277, 5, none⟩ = some (.int .i64 a0_5) := (blk_cell BK277.out 5).trans rfl
       have hfz40_0 := blk_frozen BK277.out 0
       have hfz40_1 := blk_frozen BK277.out 1
       have hfz40_2 := blk_frozen BK277.out 2
       have hfz40_3 := blk_frozen BK277.out 3
       have hfz40_4 := blk_frozen BK277.out 4
       have hfz40_5 := blk_frozen BK277.out 5
       go_wp2
       go_ret
       exact ⟨Z4, Z5 GE277.out GE278.out⟩
     ·rw [if_neg c35] at H
      have c35b0 : (a0_0 == 2) = false := beq_eq_false_iff_ne.mpr c35
      have c35b1 : (a0_0 != 2) = true := bne_iff_ne.mpr c35
      obtain rfl := Option.some.inj H
      have hnb41 := NB277_278.out
      have hnc41 := NB278_277.out
      have hcz42_0 : wc.cell? ⟨gb277, 0, none⟩ = some (.int .i64 a0_0) := (blk_cell BK277.out 0).trans rfl
      have hcz42_1 : wc.cell? ⟨gb277, 1, none⟩ = some (.int .i64 a0_1) := (blk_cell BK277.out 1).trans rfl
      have hcz42_2 : wc.cell? ⟨gb277, 2, none⟩ = some (.slice A0_2 l0_2.length c0_2) := (blk_cell BK277.out 2).trans rfl
      have hcz42_3 : wc.cell? ⟨gb277, 3, none⟩ = some (.int .i64 a0_3) := (blk_cell BK277.out 3).trans rfl
      have hcz42_4 : wc.cell? ⟨gb277, 4, none⟩ = some (.slice A0_4 l0_4.length c0_4) := (blk_cell BK277.out 4).trans rfl
      have hcz42_5 : wc.cell? ⟨gb277, 5, none⟩ = some (.int .i64 a0_5) := (blk_cell BK277.out 5).trans rfl
      have hfz42_0 := blk_frozen BK277.out 0
      have hfz42_1 := blk_frozen BK277.out 1
      have hfz42_2 := blk_frozen BK277.out 2
      have hfz42_3 := blk_frozen BK277.out 3
      have hfz42_4 := blk_frozen BK277.out 4
      have hfz42_5 := blk_frozen BK277.out 5
      go_wp2
      go_ret
      exact ⟨Z4, Z5 GE277.out GE278.out⟩
def impl_TurnsOk.l0 : Nat → List (S122) → List (S122) → Int → Int → Option (Bool)
 | 0, _, _, _, _ => none
 | k + 1, x0, x5, x6, x7 => if x7 < x6 then (if 0 ≤ x7 then (if x7 < (x5.length : Int) then ((impl_turnOk.f k ((rd_T122 x5 x7).f0) ((rd_T122 x5 x7).f1) ((rd_T122 x5 x7).f2.f0) ((rd_T122 x5 x7).f2.f1) ((rd_T122 x5 x7).f2.f2) ((rd_T122 x5 x7).f2.f3)).bind fun t283 => (if t283 = true then (impl_TurnsOk.l0 k x0 x5 x6 (wrap64 (x7 + 1))) else (some false))) else (none)) else (none)) else (some (decide ((x0.length : Int) ≤ 60)))
def impl_TurnsOk.f (k : Nat) (l0 : List (S122)) : Option (Bool) := impl_TurnsOk.l0 k l0 l0 (l0.length : Int) 0
theorem impl_TurnsOk.mono_l : ∀ k, (∀ y0 y1 y2 y3, LeO (impl_TurnsOk.l0 k y0 y1 y2 y3) (impl_TurnsOk.l0 (k + 1) y0 y1 y2 y3))
 | 0 => fun _ _ _ _ r h => by simp [impl_TurnsOk.l0] at h
 | k + 1 => by
  have ih0 := impl_TurnsOk.mono_l k
  ·intro y0 y1 y2 y3
   unfold impl_TurnsOk.l0
   repeat' first
   | (with_reducible exact ih0 _ _ _ _)
   | (with_reducible exact impl_turnOk.mono _ _ _ _ _ _ _)
   | (with_reducible exact LeO.refl _)
   | (with_reducible exact LeO.none _)
   | (with_reducible refine LeO.ite ?_ ?_)
   | (with_reducible refine LeO.bind ?_ (fun _ => ?_))
   | exact ih0 _ _ _ _
   | exact impl_turnOk.mono _ _ _ _ _ _ _
   | exact LeO.none _
   | refine LeO.ite ?_ ?_
   | refine LeO.bind ?_ (fun _ => ?_)
theorem impl_TurnsOk.mono : ∀ a0 k, LeO (impl_TurnsOk.f k a0) (impl_TurnsOk.f (k + 1) a0) := by
 intro a0 k
 have ih0 := impl_TurnsOk.mono_l k
 unfold impl_TurnsOk.f
 repeat' first
   | (with_reducible exact ih0 _ _ _ _)
   | (with_reducible exact impl_turnOk.mono _ _ _ _ _ _ _)
   | (with_reducible exact LeO.refl _)
   | (with_reducible exact LeO.none _)
   | (with_reducible refine LeO.ite ?_ ?_)
   | (with_reducible refine LeO.bind ?_ (fun _ => ?_))
   | exact ih0 _ _ _ _
   | exact impl_turnOk.mono _ _ _ _ _ _ _
   | exact LeO.none _
   | refine LeO.ite ?_ ?_
   | refine LeO.bind ?_ (fun _ => ?_)
set_option maxHeartbeats 8000000 in
set_option maxRecDepth 100000 in
theorem impl_TurnsOk.calls (k : Nat) (A0 : Option Addr) (c0 : Nat) (l0 : List (S122)) (r : Bool) (w : World) (hr0 : Kd.C k122 w A0 l0.length l0) (hc0 : l0.length ≤ c0) (h : impl_TurnsOk.f k l0 = some r) :
  Calls Try.prog 84 #[.slice A0 l0.length c0] w fun e w' => e = .returned (.bool r) ∧ Below w.heap.size w w' := by
 have hu122 := Try.underlying122
 have HR0 := A_ hr0
 have HC0 := A_ hc0
 clear hr0 hc0
 have HB := A_ (Below.refl w.heap.size w)
 have H : (impl_TurnsOk.l0 k l0 l0 (l0.length : Int) 0) = some r := h
 clear h
 have H' := A_ H
 clear H
 go_enter Try.func84, Try.ntmps84
 go_wp2
 go_loopg [7] k (fun kq v7 w' => ∃ (x7_1 : Int), v7 = .int .i64 x7_1 ∧ Aside0 (impl_TurnsOk.l0 kq l0 l0 (l0.length : Int) x7_1 = some r) ∧ Aside0 (kq ≤ k) ∧ Aside0 (Below w.heap.size w w'))
 case atStart => exact ⟨(0), Z12, H', ⟨Nat.le_refl _⟩, ⟨Z0⟩⟩
 case round =>
  clear H'
  obtain ⟨x7_1, rfl, HA, HK1, HB⟩ := hrel
  cases gk with
  | zero => exact absurd HA.out (by simp [impl_TurnsOk.l0])
  | succ k1 =>
   have H := HA.out
   clear HA
   simp only [impl_TurnsOk.l0] at H
   by_cases c2 : x7_1 < (l0.length : Int)
   ·rw [if_pos c2] at H
    have c2b0 : decide (x7_1 < (l0.length : Int)) = true := decide_eq_true c2
    clear c2
    by_cases c3 : 0 ≤ x7_1
    ·rw [if_pos c3] at H
     have c3b0 : decide (0 ≤ x7_1) = true := decide_eq_true c3
     clear c3
     by_cases c4 : x7_1 < (l0.length : Int)
     ·rw [if_pos c4] at H
      have c4b0 : decide (x7_1 < (l0.length : Int)) = true := decide_eq_true c4
      clear c4
      replace H := Option.bind_eq_some_iff.mp H
      obtain ⟨t283, A50, H⟩ := H
      replace H : (if t283 = true then (impl_TurnsOk.l0 k1 l0 l0 (l0.length : Int) (wrap64 (x7_1 + 1))) else (some false)) = some r := H
      have A5 := A_ A50
      clear A50
      by_cases c6 : t283 = true
      ·subst c6
       have H1 : (impl_TurnsOk.l0 k1 l0 l0 (l0.length : Int) (wrap64 (x7_1 + 1))) = some r := by rw [if_pos rfl] at H; exact H
       clear H
       have H := H1
       clear H1
       have H' := A_ H
       clear H
       have p281 : 0 ≤ (x7_1 : Int) := of_decide_eq_true Z7
       have q281 : x7_1 < (l0.length : Int) := of_decide_eq_true Z7
       obtain ⟨ad281, A281_2, c281_2, A281_4, c281_4, e281, hx281_0, hx281_1, hx281_2, hx281_3, hx281_4, hx281_5, hl281_2, hi281_2, hl281_4, hi281_4⟩ := at_T122 HR0.out x7_1 p281 q281
       cases e281
       replace hx281_0 := ZC HB.out hx281_0
       replace hx281_1 := ZC HB.out hx281_1
       replace hx281_2 := ZC HB.out hx281_2
       replace hx281_3 := ZC HB.out hx281_3
       replace hx281_4 := ZC HB.out hx281_4
       replace hx281_5 := ZC HB.out hx281_5
       have HR281_2 := A_ hi281_2
       have HC281_2 := A_ hl281_2
       clear hi281_2 hl281_2
       have HR281_4 := A_ hi281_4
       have HC281_4 := A_ hl281_4
       clear hi281_4 hl281_4
       replace p281 := eq_true p281
       replace q281 := eq_true q281
       go_wp2_with (first | ((with_reducible refine gate_dst (N := 4) rfl ?_); refine box_event ?hg (N := 4) ?hd (cs := #[.int .i64 0, .int .i64 0, .slice none 0 0, .int .i64 0, .slice none 0 0, .int .i64 0]) (t := 122) ?hr ?_; (case hd => rfl); (case hg => rfl); (case hr => exact Z11); intro gb282 hg w7 hbox hb; have n0_ := A_ (below_step Z0 hb); have n1_ := A_ (hbox); have n2_ := A_ ((by rw [hg]; exact (below_size Z0) : w.heap.size ≤ gb282)); have n3_ := A_ ((by rw [hg]; exact (below_size Z0) : w.heap.size ≤ gb282)); clear HB; have HB := n0_; have BK282 := n1_; have GW282 := n2_; have GE282 := n3_; clear n0_ n1_ n2_ n3_; clear hb hbox hg; have hcz8_0 : w7.cell? ⟨gb282, 0, none⟩ = some (.int .i64 0) := (blk_cell BK282.out 0).trans rfl; have hcz8_1 : w7.cell? ⟨gb282, 1, none⟩ = some (.int .i64 0) := (blk_cell BK282.out 1).trans rfl; have hcz8_2 : w7.cell? ⟨gb282, 2, none⟩ = some (.slice none 0 0) := (blk_cell BK282.out 2).trans rfl; have hcz8_3 : w7.cell? ⟨gb282, 3, none⟩ = some (.int .i64 0) := (blk_cell BK282.out 3).trans rfl; have hcz8_4 : w7.cell? ⟨gb282, 4, none⟩ = some (.slice none 0 0) := (blk_cell BK282.out 4).trans rfl; have hcz8_5 : w7.cell? ⟨gb282, 5, none⟩ = some (.int .i64 0) := (blk_cell BK282.out 5).trans rfl; have hfz8_0 := blk_frozen BK282.out 0; have hfz8_1 := blk_frozen BK282.out 1; have hfz8_2 := blk_frozen BK282.out 2; have hfz8_3 := blk_frozen BK282.out 3; have hfz8_4 := blk_frozen BK282.out 4; have hfz8_5 := blk_frozen BK282.out 5) | ((with_reducible refine gate_callee (f := 99) rfl ?_); refine goesL_ (some 12) rfl rfl Try.func99 (by kernel_rfl) rfl #[.agg #[.int .i64 ((rd_T122 l0 x7_1).f0), .int .i64 ((rd_T122 l0 x7_1).f1), .slice A281_2 ((rd_T122 l0 x7_1).f2.f0).length c281_2, .int .i64 ((rd_T122 l0 x7_1).f2.f1), .slice A281_4 ((rd_T122 l0 x7_1).f2.f2).length c281_4, .int .i64 ((rd_T122 l0 x7_1).f2.f3)]] rfl Z3 ?_; (with_reducible refine (impl_turnOk.calls k1 ((rd_T122 l0 x7_1).f0) ((rd_T122 l0 x7_1).f1) _ _ ((rd_T122 l0 x7_1).f2.f0) ((rd_T122 l0 x7_1).f2.f1) _ _ ((rd_T122 l0 x7_1).f2.f2) ((rd_T122 l0 x7_1).f2.f3) true _ ?side1 ?side2 ?side3 ?side4 A5.out).mono ?_); (case side1 => exact Kd.C_below HR281_2.out (Z1 GE282.out)); (case side2 => exact HC281_2.out); (case side3 => exact Kd.C_below HR281_4.out (Z1 GE282.out)); (case side4 => exact HC281_4.out); rintro e w9 ⟨rfl, hb⟩; refine ⟨_, rfl, ?_⟩; have n0_ := A_ (blk_below (g := gb282) (o := .cells #[.int .i64 ((rd_T122 l0 x7_1).f0), .int .i64 ((rd_T122 l0 x7_1).f1), .slice A281_2 ((rd_T122 l0 x7_1).f2.f0).length c281_2, .int .i64 ((rd_T122 l0 x7_1).f2.f1), .slice A281_4 ((rd_T122 l0 x7_1).f2.f2).length c281_4, .int .i64 ((rd_T122 l0 x7_1).f2.f3)] 122 (0, 0)) (by (with_reducible repeat (first | refine blk_drewN ?_ _ | refine blk_drew ?_ | refine blk_alloc ?_ _)); refine blk_put (cs := #[.int .i64 ((rd_T122 l0 x7_1).f0), .int .i64 ((rd_T122 l0 x7_1).f1), .slice A281_2 ((rd_T122 l0 x7_1).f2.f0).length c281_2, .int .i64 ((rd_T122 l0 x7_1).f2.f1), .slice A281_4 ((rd_T122 l0 x7_1).f2.f2).length c281_4, .int .i64 0]) ?_ 5 _ rfl; (with_reducible repeat (first | refine blk_drewN ?_ _ | refine blk_drew ?_ | refine blk_alloc ?_ _)); refine blk_put (cs := #[.int .i64 ((rd_T122 l0 x7_1).f0), .int .i64 ((rd_T122 l0 x7_1).f1), .slice A281_2 ((rd_T122 l0 x7_1).f2.f0).length c281_2, .int .i64 ((rd_T122 l0 x7_1).f2.f1), .slice none 0 0, .int .i64 0]) ?_ 4 _ rfl; (with_reducible repeat (first | refine blk_drewN ?_ _ | refine blk_drew ?_ | refine blk_alloc ?_ _)); refine blk_put (cs := #[.int .i64 ((rd_T122 l0 x7_1).f0), .int .i64 ((rd_T122 l0 x7_1).f1), .slice A281_2 ((rd_T122 l0 x7_1).f2.f0).length c281_2, .int .i64 0, .slice none 0 0, .int .i64 0]) ?_ 3 _ rfl; (with_reducible repeat (first | refine blk_drewN ?_ _ | refine blk_drew ?_ | refine blk_alloc ?_ _)); refine blk_put (cs := #[.int .i64 ((rd_T122 l0 x7_1).f0), .int .i64 ((rd_T122 l0 x7_1).f1), .slice none 0 0, .int .i64 0, .slice none 0 0, .int .i64 0]) ?_ 2 _ rfl; (with_reducible repeat (first | refine blk_drewN ?_ _ | refine blk_drew ?_ | refine blk_alloc ?_ _)); refine blk_put (cs := #[.int .i64 ((rd_T122 l0 x7_1).f0), .int .i64 0, .slice none 0 0, .int .i64 0, .slice none 0 0, .int .i64 0]) ?_ 1 _ rfl; (with_reducible repeat (first | refine blk_drewN ?_ _ | refine blk_drew ?_ | refine blk_alloc ?_ _)); refine blk_put (cs := #[.int .i64 0, .int .i64 0, .slice none 0 0, .int .i64 0, .slice none 0 0, .int .i64 0]) ?_ 0 _ rfl; (with_reducible repeat (first | refine blk_drewN ?_ _ | refine blk_drew ?_ | refine blk_alloc ?_ _)); exact BK282.out) hb); have n1_ := A_ (below_step (Z1 GE282.out) hb); clear BK282; clear HB; have BK282 := n0_; have HB := n1_; clear n0_ n1_; (try clear hb); (try clear hb2); (try clear hk); (try clear hi)))
       go_roundg k1
       case measure => have := HK1.out; omega
       case rel => exact ⟨(wrap64 (x7_1 + 1)), Z12, H', ⟨by have := HK1.out; omega⟩, ⟨Z1 GE282.out⟩⟩
      ·replace c6 := Bool.eq_false_iff.mpr c6
       subst c6
       have H1 : (some false) = some r := by rw [if_neg (show ¬ (false = true) by decide)] at H; exact H
       clear H
       have H := H1
       clear H1
       obtain rfl := Option.some.inj H
       have p281 : 0 ≤ (x7_1 : Int) := of_decide_eq_true Z7
       have q281 : x7_1 < (l0.length : Int) := of_decide_eq_true Z7
       obtain ⟨ad281, A281_2, c281_2, A281_4, c281_4, e281, hx281_0, hx281_1, hx281_2, hx281_3, hx281_4, hx281_5, hl281_2, hi281_2, hl281_4, hi281_4⟩ := at_T122 HR0.out x7_1 p281 q281
       cases e281
       replace hx281_0 := ZC HB.out hx281_0
       replace hx281_1 := ZC HB.out hx281_1
       replace hx281_2 := ZC HB.out hx281_2
       replace hx281_3 := ZC HB.out hx281_3
       replace hx281_4 := ZC HB.out hx281_4
       replace hx281_5 := ZC HB.out hx281_5
       have HR281_2 := A_ hi281_2
       have HC281_2 := A_ hl281_2
       clear hi281_2 hl281_2
       have HR281_4 := A_ hi281_4
       have HC281_4 := A_ hl281_4
       clear hi281_4 hl281_4
       replace p281 := eq_true p281
       replace q281 := eq_true q281
       go_wp2_with (first | ((with_reducible refine gate_dst (N := 4) rfl ?_); refine box_event ?hg (N := 4) ?hd (cs := #[.int .i64 0, .int .i64 0, .slice none 0 0, .int .i64 0, .slice none 0 0, .int .i64 0]) (t := 122) ?hr ?_; (case hd => rfl); (case hg => rfl); (case hr => exact Z11); intro gb282 hg w10 hbox hb; have n0_ := A_ (below_step Z0 hb); have n1_ := A_ (hbox); have n2_ := A_ ((by rw [hg]; exact (below_size Z0) : w.heap.size ≤ gb282)); have n3_ := A_ ((by rw [hg]; exact (below_size Z0) : w.heap.size ≤ gb282)); clear HB; have HB := n0_; have BK282 := n1_; have GW282 := n2_; have GE282 := n3_; clear n0_ n1_ n2_ n3_; clear hb hbox hg; have hcz11_0 : w10.cell? ⟨gb282, 0, none⟩ = some (.int .i64 0) := (blk_cell BK282.out 0).trans rfl; have hcz11_1 : w10.cell? ⟨gb282, 1, none⟩ = some (.int .i64 0) := (blk_cell BK282.out 1).trans rfl; have hcz11_2 : w10.cell? ⟨gb282, 2, none⟩ = some (.slice none 0 0) := (blk_cell BK282.out 2).trans rfl; have hcz11_3 : w10.cell? ⟨gb282, 3, none⟩ = some (.int .i64 0) := (blk_cell BK282.out 3).trans rfl; have hcz11_4 : w10.cell? ⟨gb282, 4, none⟩ = some (.slice none 0 0) := (blk_cell BK282.out 4).trans rfl; have hcz11_5 : w10.cell? ⟨gb282, 5, none⟩ = some (.int .i64 0) := (blk_cell BK282.out 5).trans rfl; have hfz11_0 := blk_frozen BK282.out 0; have hfz11_1 := blk_frozen BK282.out 1; have hfz11_2 := blk_frozen BK282.out 2; have hfz11_3 := blk_frozen BK282.out 3; have hfz11_4 := blk_frozen BK282.out 4; have hfz11_5 := blk_frozen BK282.out 5) | ((with_reducible refine gate_callee (f := 99) rfl ?_); refine goesL_ (some 12) rfl rfl Try.func99 (by kernel_rfl) rfl #[.agg #[.int .i64 ((rd_T122 l0 x7_1).f0), .int .i64 ((rd_T122 l0 x7_1).f1), .slice A281_2 ((rd_T122 l0 x7_1).f2.f0).length c281_2, .int .i64 ((rd_T122 l0 x7_1).f2.f1), .slice A281_4 ((rd_T122 l0 x7_1).f2.f2).length c281_4, .int .i64 ((rd_T122 l0 x7_1).f2.f3)]] rfl Z3 ?_; (with_reducible refine (impl_turnOk.calls k1 ((rd_T122 l0 x7_1).f0) ((rd_T122 l0 x7_1).f1) _ _ ((rd_T122 l0 x7_1).f2.f0) ((rd_T122 l0 x7_1).f2.f1) _ _ ((rd_T122 l0 x7_1).f2.f2) ((rd_T122 l0 x7_1).f2.f3) false _ ?side1 ?side2 ?side3 ?side4 A5.out).mono ?_); (case side1 => exact Kd.C_below HR281_2.out (Z1 GE282.out)); (case side2 => exact HC281_2.out); (case side3 => exact Kd.C_below HR281_4.out (Z1 GE282.out)); (case side4 => exact HC281_4.out); rintro e w12 ⟨rfl, hb⟩; refine ⟨_, rfl, ?_⟩; have n0_ := A_ (blk_below (g := gb282) (o := .cells #[.int .i64 ((rd_T122 l0 x7_1).f0), .int .i64 ((rd_T122 l0 x7_1).f1), .slice A281_2 ((rd_T122 l0 x7_1).f2.f0).length c281_2, .int .i64 ((rd_T122 l0 x7_1).f2.f1), .slice A281_4 ((rd_T122 l0 x7_1).f2.f2).length c281_4, .int .i64 ((rd_T122 l0 x7_1).f2.f3)] 122 (0, 0)) (by (with_reducible repeat (first | refine blk_drewN ?_ _ | refine blk_drew ?_ | refine blk_alloc ?_ _)); refine blk_put (cs := #[.int .i64 ((rd_T122 l0 x7_1).f0), .int .i64 ((rd_T122 l0 x7_1).f1), .slice A281_2 ((rd_T122 l0 x7_1).f2.f0).length c281_2, .int .i64 ((rd_T122 l0 x7_1).f2.f1), .slice A281_4 ((rd_T122 l0 x7_1).f2.f2).length c281_4, .int .i64 0]) ?_ 5 _ rfl; (with_reducible repeat (first | refine blk_drewN ?_ _ | refine blk_drew ?_ | refine blk_alloc ?_ _)); refine blk_put (cs := #[.int .i64 ((rd_T122 l0 x7_1).f0), .int .i64 ((rd_T122 l0 x7_1).f1), .slice A281_2 ((rd_T122 l0 x7_1).f2.f0).length c281_2, .int .i64 ((rd_T122 l0 x7_1).f2.f1), .slice none 0 0, .int .i64 0]) ?_ 4 _ rfl; (with_reducible repeat (first | refine blk_drewN ?_ _ | refine blk_drew ?_ | refine blk_alloc ?_ _)); refine blk_put (cs := #[.int .i64 ((rd_T122 l0 x7_1).f0), .int .i64 ((rd_T122 l0 x7_1).f1), .slice A281_2 ((rd_T122 l0 x7_1).f2.f0).length c281_2, .int .i64 0, .slice none 0 0, .int .i64 0]) ?_ 3 _ rfl; (with_reducible repeat (first | refine blk_drewN ?_ _ | refine blk_drew ?_ | refine blk_alloc ?_ _)); refine blk_put (cs := #[.int .i64 ((rd_T122 l0 x7_1).f0), .int .i64 ((rd_T122 l0 x7_1).f1), .slice none 0 0, .int .i64 0, .slice none 0 0, .int .i64 0]) ?_ 2 _ rfl; (with_reducible repeat (first | refine blk_drewN ?_ _ | refine blk_drew ?_ | refine blk_alloc ?_ _)); refine blk_put (cs := #[.int .i64 ((rd_T122 l0 x7_1).f0), .int .i64 0, .slice none 0 0, .int .i64 0, .slice none 0 0, .int .i64 0]) ?_ 1 _ rfl; (with_reducible repeat (first | refine blk_drewN ?_ _ | refine blk_drew ?_ | refine blk_alloc ?_ _)); refine blk_put (cs := #[.int .i64 0, .int .i64 0, .slice none 0 0, .int .i64 0, .slice none 0 0, .int .i64 0]) ?_ 0 _ rfl; (with_reducible repeat (first | refine blk_drewN ?_ _ | refine blk_drew ?_ | refine blk_alloc ?_ _)); exact BK282.out) hb); have n1_ := A_ (below_step (Z1 GE282.out) hb); clear BK282; clear HB; have BK282 := n0_; have HB := n1_; clear n0_ n1_; (try clear hb); (try clear hb2); (try clear hk); (try clear hi)))
       go_ret
       exact ⟨Z4, Z1 GE282.out⟩
     ·rw [if_neg c4] at H
      exact absurd H (by simp)
    ·rw [if_neg c3] at H
     exact absurd H (by simp)
   ·rw [if_neg c2] at H
    have c2b0 : decide (x7_1 < (l0.length : Int)) = false := decide_eq_false c2
    clear c2
    obtain rfl := Option.some.inj H
    go_wp2
    go_ret
    exact ⟨Z4, Z0⟩
def impl_placeCopy.f (l0 : List (S92)) : Option ((List (S92))) := if ([] : List (S92)).length + l0.length < 8796093022208 then (some (([] : List (S92)) ++ l0)) else (none)
set_option maxHeartbeats 8000000 in
set_option maxRecDepth 100000 in
theorem impl_placeCopy.calls (A0 : Option Addr) (c0 : Nat) (l0 : List (S92)) (r : List (S92)) (w : World) (hr0 : Kd.C k92 w A0 l0.length l0) (hc0 : l0.length ≤ c0) (h : impl_placeCopy.f l0 = some r) :
  Calls Try.prog 55 #[.slice A0 l0.length c0] w fun e w' => ∃ v0_ : Value, e = .returned (v0_) ∧ Kd.R k92 92 w' w.heap.size (fun _ => True) v0_ r ∧ Below w.heap.size w w' := by
 have HR0 := A_ hr0
 have HC0 := A_ hc0
 clear hr0 hc0
 have HB := A_ (Below.refl w.heap.size w)
 have H : (if ([] : List (S92)).length + l0.length < 8796093022208 then (some (([] : List (S92)) ++ l0)) else (none)) = some r := h
 clear h
 by_cases c2 : ([] : List (S92)).length + l0.length < 8796093022208
 ·rw [if_pos c2] at H
  have LMc2 := A_ c2
  clear c2
  obtain ⟨y284, hy284⟩ : ∃ y_ : List (S92), y_ = (([] : List (S92)) ++ l0) := ⟨_, rfl⟩
  replace H : (some y284) = some r := by first | (rw [hy284]; with_reducible exact H) | (have H2_ := (Option.bind_some _ _).symm.trans H; rw [hy284]; with_reducible exact H2_) | (have H2_ := (Option.bind_some _ _).symm.trans H; with_reducible exact H2_) | with_reducible exact H | (rw [hy284]; exact H) | exact H
  have Ny284 := A_ hy284
  clear hy284
  obtain rfl := Option.some.inj H
  go_enter Try.func55, Try.ntmps55
  go_wp2_with (first | ((with_reducible refine gate_builtin (b := .append) (xs := #[.const (.slice none 0 0), .tmp 3]) rfl ?_); at_builtin; refine Kd.R_append_rows k92 (w0 := w) w.heap.size rfl (.const (.slice none 0 0)) (.tmp 3) 43 92 (.agg #[(.int .i64 0), (.int .i64 0)]) 16 rfl Try.underlying43 info92 rfl (by decide) (by omega) (.slice none 0 0) ([] : List (S92)) l0 _ _ _ (fun _ => True) (fun _ => False) rfl rfl ?aO ?aR (fun _ _ h => h) (fun _ h => h.elim) ?aF ?aB ?aS ?aL ?_; (case aR => exact Z42 HR0.out); (case aB => exact Z0); (case aF => exact (fun _ _ => trivial)); (case aO => exact ((Kd.R_nil _ _ _ _ (fun _ => True)))); (case aS => exact (below_size Z0)); (case aL => have := LMc2.out; omega); intro v285 w3 ho hb hg hat; rw [← Ny284.out] at ho; have n0_ := A_ (hb); have n1_ := A_ (ho); clear HB; have HB := n0_; have HO286 := n1_; clear n0_ n1_; clear ho hb hg hat))
  go_ret
  exact ⟨_, Z4, Z10 HO286.out, Z0⟩
 ·rw [if_neg c2] at H
  exact absurd H (by simp)
def impl_formCopy.f (l0 : List (S137)) : Option ((List (S137))) := if ([] : List (S137)).length + l0.length < 2932031007402 then (some (([] : List (S137)) ++ l0)) else (none)
set_option maxHeartbeats 8000000 in
set_option maxRecDepth 100000 in
theorem impl_formCopy.calls (A0 : Option Addr) (c0 : Nat) (l0 : List (S137)) (r : List (S137)) (w : World) (hr0 : Kd.C k137 w A0 l0.length l0) (hc0 : l0.length ≤ c0) (h : impl_formCopy.f l0 = some r) :
  Calls Try.prog 108 #[.slice A0 l0.length c0] w fun e w' => ∃ v0_ : Value, e = .returned (v0_) ∧ Kd.R k137 137 w' w.heap.size (fun _ => True) v0_ r ∧ Below w.heap.size w w' := by
 have HR0 := A_ hr0
 have HC0 := A_ hc0
 clear hr0 hc0
 have HB := A_ (Below.refl w.heap.size w)
 have H : (if ([] : List (S137)).length + l0.length < 2932031007402 then (some (([] : List (S137)) ++ l0)) else (none)) = some r := h
 clear h
 by_cases c2 : ([] : List (S137)).length + l0.length < 2932031007402
 ·rw [if_pos c2] at H
  have LMc2 := A_ c2
  clear c2
  obtain ⟨y287, hy287⟩ : ∃ y_ : List (S137), y_ = (([] : List (S137)) ++ l0) := ⟨_, rfl⟩
  replace H : (some y287) = some r := by first | (rw [hy287]; with_reducible exact H) | (have H2_ := (Option.bind_some _ _).symm.trans H; rw [hy287]; with_reducible exact H2_) | (have H2_ := (Option.bind_some _ _).symm.trans H; with_reducible exact H2_) | with_reducible exact H | (rw [hy287]; exact H) | exact H
  have Ny287 := A_ hy287
  clear hy287
  obtain rfl := Option.some.inj H
  go_enter Try.func108, Try.ntmps108
  go_wp2_with (first | ((with_reducible refine gate_builtin (b := .append) (xs := #[.const (.slice none 0 0), .tmp 3]) rfl ?_); at_builtin; refine Kd.R_append_rows k137 (w0 := w) w.heap.size rfl (.const (.slice none 0 0)) (.tmp 3) 118 137 (.agg #[(.int .i64 0), (.int .i64 0), (.int .i64 0), (.int .i64 0), (.string ⟨#[]⟩)]) 48 rfl Try.underlying118 info137 rfl (by decide) (by omega) (.slice none 0 0) ([] : List (S137)) l0 _ _ _ (fun _ => True) (fun _ => False) rfl rfl ?aO ?aR (fun _ _ h => h) (fun _ h => h.elim) ?aF ?aB ?aS ?aL ?_; (case aR => exact Z42 HR0.out); (case aB => exact Z0); (case aF => exact (fun _ _ => trivial)); (case aO => exact ((Kd.R_nil _ _ _ _ (fun _ => True)))); (case aS => exact (below_size Z0)); (case aL => have := LMc2.out; omega); intro v288 w3 ho hb hg hat; rw [← Ny287.out] at ho; have n0_ := A_ (hb); have n1_ := A_ (ho); clear HB; have HB := n0_; have HO289 := n1_; clear n0_ n1_; clear ho hb hg hat))
  go_ret
  exact ⟨_, Z4, Z10 HO289.out, Z0⟩
 ·rw [if_neg c2] at H
  exact absurd H (by simp)
def impl_updateCopy.f (l0_0 : List (S92)) (a0_1 : Int) (l0_2 : List (S137)) (a0_3 : Int) : Option ((List (S92)) × Int × (List (S137)) × Int) := (impl_placeCopy.f l0_0).bind fun t292 => ((impl_formCopy.f l0_2).bind fun t295 => (some (t292, a0_1, t295, a0_3)))
set_option maxHeartbeats 8000000 in
set_option maxRecDepth 100000 in
theorem impl_updateCopy.calls (A0_0 : Option Addr) (c0_0 : Nat) (l0_0 : List (S92)) (a0_1 : Int) (A0_2 : Option Addr) (c0_2 : Nat) (l0_2 : List (S137)) (a0_3 : Int) (r1 : List (S92)) (r2 : Int) (r3 : List (S137)) (r4 : Int) (w : World) (hr0_0 : Kd.C k92 w A0_0 l0_0.length l0_0) (hc0_0 : l0_0.length ≤ c0_0) (hr0_2 : Kd.C k137 w A0_2 l0_2.length l0_2) (hc0_2 : l0_2.length ≤ c0_2) (h : impl_updateCopy.f l0_0 a0_1 l0_2 a0_3 = some (r1, r2, r3, r4)) :
  Calls Try.prog 100 #[.agg #[.slice A0_0 l0_0.length c0_0, .int .i64 a0_1, .slice A0_2 l0_2.length c0_2, .int .i64 a0_3]] w fun e w' => ∃ v0_ v2_ : Value, e = .returned (.agg #[v0_, .int .i64 r2, v2_, .int .i64 r4]) ∧ Kd.R k92 92 w' w.heap.size (fun _ => True) v0_ r1 ∧ Kd.R k137 137 w' w.heap.size (fun _ => True) v2_ r3 ∧ Below w.heap.size w w' := by
 have hu120 := Try.underlying120
 have HR0_0 := A_ hr0_0
 have HC0_0 := A_ hc0_0
 clear hr0_0 hc0_0
 have HR0_2 := A_ hr0_2
 have HC0_2 := A_ hc0_2
 clear hr0_2 hc0_2
 have HB := A_ (Below.refl w.heap.size w)
 have H : ((impl_placeCopy.f l0_0).bind fun t292 => ((impl_formCopy.f l0_2).bind fun t295 => (some (t292, a0_1, t295, a0_3)))) = some (r1, r2, r3, r4) := h
 clear h
 replace H := Option.bind_eq_some_iff.mp H
 obtain ⟨t292, A20, H⟩ := H
 replace H : ((impl_formCopy.f l0_2).bind fun t295 => (some (t292, a0_1, t295, a0_3))) = some (r1, r2, r3, r4) := H
 have A2 := A_ A20
 clear A20
 replace H := Option.bind_eq_some_iff.mp H
 obtain ⟨t295, A30, H⟩ := H
 replace H : (some (t292, a0_1, t295, a0_3)) = some (r1, r2, r3, r4) := H
 have A3 := A_ A30
 clear A30
 simp only [Option.some.injEq, Prod.mk.injEq] at H
 obtain ⟨rfl, rfl, rfl, rfl⟩ := H
 go_enter Try.func100, Try.ntmps100
 go_wp2_with (first | ((with_reducible refine gate_dst (N := 1) rfl ?_); refine box_event ?hg (N := 1) ?hd (cs := #[.slice A0_0 l0_0.length c0_0, .int .i64 a0_1, .slice A0_2 l0_2.length c0_2, .int .i64 a0_3]) (t := 120) ?hr ?_; (case hd => rfl); (case hg => rfl); (case hr => exact Z11); intro gb290 hg w4 hbox hb; have n0_ := A_ (below_step Z0 hb); have n1_ := A_ (hbox); have n2_ := A_ ((by rw [hg]; exact (below_size Z0) : w.heap.size ≤ gb290)); have n3_ := A_ ((by rw [hg]; exact (below_size Z0) : w.heap.size ≤ gb290)); clear HB; have HB := n0_; have BK290 := n1_; have GW290 := n2_; have GE290 := n3_; clear n0_ n1_ n2_ n3_; clear hb hbox hg) | ((with_reducible refine gate_dst (N := 2) rfl ?_); refine box_event ?hg (N := 2) ?hd (cs := #[.slice none 0 0, .int .i64 0, .slice none 0 0, .int .i64 0]) (t := 120) ?hr ?_; (case hd => rfl); (case hg => rfl); (case hr => exact Z11); intro gb291 hg w5 hbox hb; have n0_ := A_ (blk_below (g := gb290) (o := .cells #[.slice A0_0 l0_0.length c0_0, .int .i64 a0_1, .slice A0_2 l0_2.length c0_2, .int .i64 a0_3] 120 (0, 0)) (Z2 BK290.out) hb); have n1_ := A_ (below_step (Z1 GE290.out) hb); have n2_ := A_ (hbox); have n3_ := A_ ((by rw [hg]; exact (below_size (Z1 GE290.out)) : w.heap.size ≤ gb291)); have n4_ := A_ ((by rw [hg]; exact (below_size (Z1 GE290.out)) : w.heap.size ≤ gb291)); have n5_ := A_ ((by rw [hg]; exact Nat.ne_of_lt (blk_lt (g := gb290) (o := .cells #[.slice A0_0 l0_0.length c0_0, .int .i64 a0_1, .slice A0_2 l0_2.length c0_2, .int .i64 a0_3] 120 (0, 0)) (Z2 BK290.out)) : gb290 ≠ gb291)); have n6_ := A_ ((by rw [hg]; exact Nat.ne_of_gt (blk_lt (g := gb290) (o := .cells #[.slice A0_0 l0_0.length c0_0, .int .i64 a0_1, .slice A0_2 l0_2.length c0_2, .int .i64 a0_3] 120 (0, 0)) (Z2 BK290.out)) : gb291 ≠ gb290)); clear BK290; clear HB; have BK290 := n0_; have HB := n1_; have BK291 := n2_; have GW291 := n3_; have GE291 := n4_; have NB290_291 := n5_; have NB291_290 := n6_; clear n0_ n1_ n2_ n3_ n4_ n5_ n6_; clear hb hbox hg; have hnb6 := NB290_291.out; have hnc6 := NB291_290.out; have hcz7_0 : w5.cell? ⟨gb290, 0, none⟩ = some (.slice A0_0 l0_0.length c0_0) := (blk_cell BK290.out 0).trans rfl; have hcz7_1 : w5.cell? ⟨gb290, 1, none⟩ = some (.int .i64 a0_1) := (blk_cell BK290.out 1).trans rfl; have hcz7_2 : w5.cell? ⟨gb290, 2, none⟩ = some (.slice A0_2 l0_2.length c0_2) := (blk_cell BK290.out 2).trans rfl; have hcz7_3 : w5.cell? ⟨gb290, 3, none⟩ = some (.int .i64 a0_3) := (blk_cell BK290.out 3).trans rfl; have hfz7_0 := blk_frozen BK290.out 0; have hfz7_1 := blk_frozen BK290.out 1; have hfz7_2 := blk_frozen BK290.out 2; have hfz7_3 := blk_frozen BK290.out 3) | ((with_reducible refine gate_callee (f := 55) rfl ?_); refine goesL_ (some 5) rfl rfl Try.func55 (by kernel_rfl) rfl #[.slice A0_0 l0_0.length c0_0] rfl Z3 ?_; (with_reducible refine (impl_placeCopy.calls _ _ l0_0 t292 _ ?side1 ?side2 A2.out).mono ?_); (case side1 => exact Z6 HR0_0.out); (case side2 => exact HC0_0.out); rintro e w8 ⟨v293, rfl, ho0, hb⟩; refine ⟨_, rfl, ?_⟩; have n0_ := A_ (Kd.R_lower ho0 (below_size (Z5 GE290.out GE291.out))); have n1_ := A_ (blk_below (g := gb290) (o := .cells #[.slice A0_0 l0_0.length c0_0, .int .i64 a0_1, .slice A0_2 l0_2.length c0_2, .int .i64 a0_3] 120 (0, 0)) (Z2 BK290.out) hb); have n2_ := A_ (blk_below (g := gb291) (o := .cells #[.slice none 0 0, .int .i64 0, .slice none 0 0, .int .i64 0] 120 (0, 0)) (Z2 BK291.out) hb); have n3_ := A_ (below_step (Z5 GE290.out GE291.out) hb); clear BK290; clear BK291; clear HB; have HO294 := n0_; have BK290 := n1_; have BK291 := n2_; have HB := n3_; clear n0_ n1_ n2_ n3_; (try clear hb); (try clear hb2); (try clear hk); (try clear hi); (try clear ho0); obtain ⟨Ao9, co9, eo9⟩ := Kd.R_slice HO294.out; subst eo9; have hcz10_0 : w8.cell? ⟨gb290, 0, none⟩ = some (.slice A0_0 l0_0.length c0_0) := (blk_cell BK290.out 0).trans rfl; have hcz10_1 : w8.cell? ⟨gb290, 1, none⟩ = some (.int .i64 a0_1) := (blk_cell BK290.out 1).trans rfl; have hcz10_2 : w8.cell? ⟨gb290, 2, none⟩ = some (.slice A0_2 l0_2.length c0_2) := (blk_cell BK290.out 2).trans rfl; have hcz10_3 : w8.cell? ⟨gb290, 3, none⟩ = some (.int .i64 a0_3) := (blk_cell BK290.out 3).trans rfl; have hfz10_0 := blk_frozen BK290.out 0; have hfz10_1 := blk_frozen BK290.out 1; have hfz10_2 := blk_frozen BK290.out 2; have hfz10_3 := blk_frozen BK290.out 3) | ((with_reducible refine gate_callee (f := 108) rfl ?_); refine goesL_ (some 9) rfl rfl Try.func108 (by kernel_rfl) rfl #[.slice A0_2 l0_2.length c0_2] rfl Z3 ?_; (with_reducible refine (impl_formCopy.calls _ _ l0_2 t295 _ ?side1 ?side2 A3.out).mono ?_); (case side1 => exact Kd.C_below HR0_2.out (Z5 GE290.out GE291.out)); (case side2 => exact HC0_2.out); rintro e w11 ⟨v296, rfl, ho0, hb⟩; refine ⟨_, rfl, ?_⟩; have n0_ := A_ (Kd.R_below (by (with_reducible repeat (first | apply Kd.R_alloc | apply Kd.R_drewN | apply Kd.R_drew)); exact (Kd.R_mono (Kd.R_far (p := ⟨gb290, 0, none⟩) (Kd.R_types HO294.out BK290.out (by decide)) (fun _ hk => hk.2) (.slice Ao9 t292.length co9)) (fun _ h_ => h_.1))) hb); have n1_ := A_ (Kd.R_lower ho0 (below_size (Z5 GE290.out GE291.out))); have n2_ := A_ (blk_below (g := gb290) (o := .cells #[.slice Ao9 t292.length co9, .int .i64 a0_1, .slice A0_2 l0_2.length c0_2, .int .i64 a0_3] 120 (0, 0)) (by (with_reducible repeat (first | refine blk_drewN ?_ _ | refine blk_drew ?_ | refine blk_alloc ?_ _)); refine blk_put (cs := #[.slice A0_0 l0_0.length c0_0, .int .i64 a0_1, .slice A0_2 l0_2.length c0_2, .int .i64 a0_3]) ?_ 0 _ rfl; (with_reducible repeat (first | refine blk_drewN ?_ _ | refine blk_drew ?_ | refine blk_alloc ?_ _)); exact BK290.out) hb); have n3_ := A_ (blk_below (g := gb291) (o := .cells #[.slice none 0 0, .int .i64 0, .slice none 0 0, .int .i64 0] 120 (0, 0)) (by (with_reducible repeat (first | refine blk_drewN ?_ _ | refine blk_drew ?_ | refine blk_alloc ?_ _)); refine blk_far ?_ NB291_290.out _; (with_reducible repeat (first | refine blk_drewN ?_ _ | refine blk_drew ?_ | refine blk_alloc ?_ _)); exact BK291.out) hb); have n4_ := A_ (below_step (Z5 GE290.out GE291.out) hb); clear HO294; clear BK290; clear BK291; clear HB; have HO294 := n0_; have HO297 := n1_; have BK290 := n2_; have BK291 := n3_; have HB := n4_; clear n0_ n1_ n2_ n3_ n4_; (try clear hb); (try clear hb2); (try clear hk); (try clear hi); (try clear ho0); obtain ⟨Ao12, co12, eo12⟩ := Kd.R_slice HO297.out; subst eo12; have hcz13_0 : w11.cell? ⟨gb290, 0, none⟩ = some (.slice Ao9 t292.length co9) := (blk_cell BK290.out 0).trans rfl; have hcz13_1 : w11.cell? ⟨gb290, 1, none⟩ = some (.int .i64 a0_1) := (blk_cell BK290.out 1).trans rfl; have hcz13_2 : w11.cell? ⟨gb290, 2, none⟩ = some (.slice A0_2 l0_2.length c0_2) := (blk_cell BK290.out 2).trans rfl; have hcz13_3 : w11.cell? ⟨gb290, 3, none⟩ = some (.int .i64 a0_3) := (blk_cell BK290.out 3).trans rfl; have hfz13_0 := blk_frozen BK290.out 0; have hfz13_1 := blk_frozen BK290.out 1; have hfz13_2 := blk_frozen BK290.out 2; have hfz13_3 := blk_frozen BK290.out 3; have hcz14_0 : w11.cell? ⟨gb291, 0, none⟩ = some (.slice none 0 0) := (blk_cell BK291.out 0).trans rfl; have hcz14_1 : w11.cell? ⟨gb291, 1, none⟩ = some (.int .i64 0) := (blk_cell BK291.out 1).trans rfl; have hcz14_2 : w11.cell? ⟨gb291, 2, none⟩ = some (.slice none 0 0) := (blk_cell BK291.out 2).trans rfl; have hcz14_3 : w11.cell? ⟨gb291, 3, none⟩ = some (.int .i64 0) := (blk_cell BK291.out 3).trans rfl; have hfz14_0 := blk_frozen BK291.out 0; have hfz14_1 := blk_frozen BK291.out 1; have hfz14_2 := blk_frozen BK291.out 2; have hfz14_3 := blk_frozen BK291.out 3))
 refine bodyPost_ret (results_cell_row rfl _ _ gb291 120 #[.slice Ao9 t292.length co9, .int .i64 a0_1, .slice Ao12 t295.length co12, .int .i64 a0_3] (0, 0) _ rfl (by (with_reducible repeat (first | refine blk_drewN ?_ _ | refine blk_drew ?_ | refine blk_alloc ?_ _)); refine blk_put (cs := #[.slice Ao9 t292.length co9, .int .i64 a0_1, .slice Ao12 t295.length co12, .int .i64 0]) ?_ 3 _ rfl; (with_reducible repeat (first | refine blk_drewN ?_ _ | refine blk_drew ?_ | refine blk_alloc ?_ _)); refine blk_put (cs := #[.slice Ao9 t292.length co9, .int .i64 a0_1, .slice none 0 0, .int .i64 0]) ?_ 2 _ rfl; (with_reducible repeat (first | refine blk_drewN ?_ _ | refine blk_drew ?_ | refine blk_alloc ?_ _)); refine blk_put (cs := #[.slice Ao9 t292.length co9, .int .i64 0, .slice none 0 0, .int .i64 0]) ?_ 1 _ rfl; (with_reducible repeat (first | refine blk_drewN ?_ _ | refine blk_drew ?_ | refine blk_alloc ?_ _)); refine blk_put (cs := #[.slice none 0 0, .int .i64 0, .slice none 0 0, .int .i64 0]) ?_ 0 _ rfl; (with_reducible repeat (first | refine blk_drewN ?_ _ | refine blk_drew ?_ | refine blk_alloc ?_ _)); refine blk_far ?_ NB291_290.out _; (with_reducible repeat (first | refine blk_drewN ?_ _ | refine blk_drew ?_ | refine blk_alloc ?_ _)); exact BK291.out) Try.underlying120 rfl (by kernel_rfl)) rfl ?_
 exact ⟨_, _, Z4, by (with_reducible repeat (first | apply Kd.R_alloc | apply Kd.R_drewN | apply Kd.R_drew)); exact Kd.R_mono (Kd.R_far (p := ⟨gb291, 3, none⟩) (Kd.R_far (p := ⟨gb291, 2, none⟩) (Kd.R_far (p := ⟨gb291, 1, none⟩) (Kd.R_far (p := ⟨gb291, 0, none⟩) (Kd.R_far (p := ⟨gb290, 2, none⟩) (Kd.R_types (Kd.R_types HO294.out BK290.out (by decide)) BK291.out (by decide)) (fun _ hk => hk.1.2) (.slice Ao12 t295.length co12)) (fun _ hk => hk.2) (.slice Ao9 t292.length co9)) (fun _ hk => hk.2) (.int .i64 a0_1)) (fun _ hk => hk.2) (.slice Ao12 t295.length co12)) (fun _ hk => hk.2) (.int .i64 a0_3)) (fun _ hk => trivial), by (with_reducible repeat (first | apply Kd.R_alloc | apply Kd.R_drewN | apply Kd.R_drew)); exact Kd.R_mono (Kd.R_far (p := ⟨gb291, 3, none⟩) (Kd.R_far (p := ⟨gb291, 2, none⟩) (Kd.R_far (p := ⟨gb291, 1, none⟩) (Kd.R_far (p := ⟨gb291, 0, none⟩) (Kd.R_far (p := ⟨gb290, 2, none⟩) (Kd.R_types (Kd.R_types HO297.out BK290.out (by decide)) BK291.out (by decide)) (fun _ hk => hk.1.2) (.slice Ao12 t295.length co12)) (fun _ hk => hk.2) (.slice Ao9 t292.length co9)) (fun _ hk => hk.2) (.int .i64 a0_1)) (fun _ hk => hk.2) (.slice Ao12 t295.length co12)) (fun _ hk => hk.2) (.int .i64 a0_3)) (fun _ hk => trivial), Z5 GE290.out GE291.out⟩
def impl_turnCopy.f (a0_0 : Int) (a0_1 : Int) (l0_2 : List (S92)) (a0_3 : Int) (l0_4 : List (S137)) (a0_5 : Int) : Option (Int × Int × (List (S92)) × Int × (List (S137)) × Int) := (impl_updateCopy.f l0_2 a0_3 l0_4 a0_5).bind fun bt300 => (some (a0_0, a0_1, bt300.1, bt300.2.1, bt300.2.2.1, bt300.2.2.2))
set_option maxHeartbeats 8000000 in
set_option maxRecDepth 100000 in
theorem impl_turnCopy.calls (a0_0 : Int) (a0_1 : Int) (A0_2 : Option Addr) (c0_2 : Nat) (l0_2 : List (S92)) (a0_3 : Int) (A0_4 : Option Addr) (c0_4 : Nat) (l0_4 : List (S137)) (a0_5 : Int) (r1 : Int) (r2 : Int) (r3 : List (S92)) (r4 : Int) (r5 : List (S137)) (r6 : Int) (w : World) (hr0_2 : Kd.C k92 w A0_2 l0_2.length l0_2) (hc0_2 : l0_2.length ≤ c0_2) (hr0_4 : Kd.C k137 w A0_4 l0_4.length l0_4) (hc0_4 : l0_4.length ≤ c0_4) (h : impl_turnCopy.f a0_0 a0_1 l0_2 a0_3 l0_4 a0_5 = some (r1, r2, r3, r4, r5, r6)) :
  Calls Try.prog 85 #[.agg #[.int .i64 a0_0, .int .i64 a0_1, .slice A0_2 l0_2.length c0_2, .int .i64 a0_3, .slice A0_4 l0_4.length c0_4, .int .i64 a0_5]] w fun e w' => ∃ v2_ v4_ : Value, e = .returned (.agg #[.int .i64 r1, .int .i64 r2, v2_, .int .i64 r4, v4_, .int .i64 r6]) ∧ Kd.R k92 92 w' w.heap.size (fun _ => True) v2_ r3 ∧ Kd.R k137 137 w' w.heap.size (fun _ => True) v4_ r5 ∧ Below w.heap.size w w' := by
 have hu122 := Try.underlying122
 have hu120 := Try.underlying120
 have HR0_2 := A_ hr0_2
 have HC0_2 := A_ hc0_2
 clear hr0_2 hc0_2
 have HR0_4 := A_ hr0_4
 have HC0_4 := A_ hc0_4
 clear hr0_4 hc0_4
 have HB := A_ (Below.refl w.heap.size w)
 have H : ((impl_updateCopy.f l0_2 a0_3 l0_4 a0_5).bind fun bt300 => (some (a0_0, a0_1, bt300.1, bt300.2.1, bt300.2.2.1, bt300.2.2.2))) = some (r1, r2, r3, r4, r5, r6) := h
 clear h
 replace H := Option.bind_eq_some_iff.mp H
 obtain ⟨⟨t300, t303, t304, t307⟩, A20, H⟩ := H
 replace H : (some (a0_0, a0_1, t300, t303, t304, t307)) = some (r1, r2, r3, r4, r5, r6) := H
 have A2 := A_ A20
 clear A20
 simp only [Option.some.injEq, Prod.mk.injEq] at H
 obtain ⟨rfl, rfl, rfl, rfl, rfl, rfl⟩ := H
 go_enter Try.func85, Try.ntmps85
 go_wp2_with (first | ((with_reducible refine gate_dst (N := 1) rfl ?_); refine box_event ?hg (N := 1) ?hd (cs := #[.int .i64 a0_0, .int .i64 a0_1, .slice A0_2 l0_2.length c0_2, .int .i64 a0_3, .slice A0_4 l0_4.length c0_4, .int .i64 a0_5]) (t := 122) ?hr ?_; (case hd => rfl); (case hg => rfl); (case hr => exact Z11); intro gb298 hg w3 hbox hb; have n0_ := A_ (below_step Z0 hb); have n1_ := A_ (hbox); have n2_ := A_ ((by rw [hg]; exact (below_size Z0) : w.heap.size ≤ gb298)); have n3_ := A_ ((by rw [hg]; exact (below_size Z0) : w.heap.size ≤ gb298)); clear HB; have HB := n0_; have BK298 := n1_; have GW298 := n2_; have GE298 := n3_; clear n0_ n1_ n2_ n3_; clear hb hbox hg) | ((with_reducible refine gate_dst (N := 2) rfl ?_); refine box_event ?hg (N := 2) ?hd (cs := #[.int .i64 0, .int .i64 0, .slice none 0 0, .int .i64 0, .slice none 0 0, .int .i64 0]) (t := 122) ?hr ?_; (case hd => rfl); (case hg => rfl); (case hr => exact Z11); intro gb299 hg w4 hbox hb; have n0_ := A_ (blk_below (g := gb298) (o := .cells #[.int .i64 a0_0, .int .i64 a0_1, .slice A0_2 l0_2.length c0_2, .int .i64 a0_3, .slice A0_4 l0_4.length c0_4, .int .i64 a0_5] 122 (0, 0)) (Z2 BK298.out) hb); have n1_ := A_ (below_step (Z1 GE298.out) hb); have n2_ := A_ (hbox); have n3_ := A_ ((by rw [hg]; exact (below_size (Z1 GE298.out)) : w.heap.size ≤ gb299)); have n4_ := A_ ((by rw [hg]; exact (below_size (Z1 GE298.out)) : w.heap.size ≤ gb299)); have n5_ := A_ ((by rw [hg]; exact Nat.ne_of_lt (blk_lt (g := gb298) (o := .cells #[.int .i64 a0_0, .int .i64 a0_1, .slice A0_2 l0_2.length c0_2, .int .i64 a0_3, .slice A0_4 l0_4.length c0_4, .int .i64 a0_5] 122 (0, 0)) (Z2 BK298.out)) : gb298 ≠ gb299)); have n6_ := A_ ((by rw [hg]; exact Nat.ne_of_gt (blk_lt (g := gb298) (o := .cells #[.int .i64 a0_0, .int .i64 a0_1, .slice A0_2 l0_2.length c0_2, .int .i64 a0_3, .slice A0_4 l0_4.length c0_4, .int .i64 a0_5] 122 (0, 0)) (Z2 BK298.out)) : gb299 ≠ gb298)); clear BK298; clear HB; have BK298 := n0_; have HB := n1_; have BK299 := n2_; have GW299 := n3_; have GE299 := n4_; have NB298_299 := n5_; have NB299_298 := n6_; clear n0_ n1_ n2_ n3_ n4_ n5_ n6_; clear hb hbox hg; have hnb5 := NB298_299.out; have hnc5 := NB299_298.out; have hcz6_0 : w4.cell? ⟨gb298, 0, none⟩ = some (.int .i64 a0_0) := (blk_cell BK298.out 0).trans rfl; have hcz6_1 : w4.cell? ⟨gb298, 1, none⟩ = some (.int .i64 a0_1) := (blk_cell BK298.out 1).trans rfl; have hcz6_2 : w4.cell? ⟨gb298, 2, none⟩ = some (.slice A0_2 l0_2.length c0_2) := (blk_cell BK298.out 2).trans rfl; have hcz6_3 : w4.cell? ⟨gb298, 3, none⟩ = some (.int .i64 a0_3) := (blk_cell BK298.out 3).trans rfl; have hcz6_4 : w4.cell? ⟨gb298, 4, none⟩ = some (.slice A0_4 l0_4.length c0_4) := (blk_cell BK298.out 4).trans rfl; have hcz6_5 : w4.cell? ⟨gb298, 5, none⟩ = some (.int .i64 a0_5) := (blk_cell BK298.out 5).trans rfl; have hfz6_0 := blk_frozen BK298.out 0; have hfz6_1 := blk_frozen BK298.out 1; have hfz6_2 := blk_frozen BK298.out 2; have hfz6_3 := blk_frozen BK298.out 3; have hfz6_4 := blk_frozen BK298.out 4; have hfz6_5 := blk_frozen BK298.out 5) | ((with_reducible refine gate_callee (f := 100) rfl ?_); refine goesL_ (some 5) rfl rfl Try.func100 (by kernel_rfl) rfl #[.agg #[.slice A0_2 l0_2.length c0_2, .int .i64 a0_3, .slice A0_4 l0_4.length c0_4, .int .i64 a0_5]] rfl Z3 ?_; (with_reducible refine (impl_updateCopy.calls _ _ l0_2 a0_3 _ _ l0_4 a0_5 t300 t303 t304 t307 _ ?side1 ?side2 ?side3 ?side4 A2.out).mono ?_); (case side1 => exact Z6 HR0_2.out); (case side2 => exact HC0_2.out); (case side3 => exact Z6 HR0_4.out); (case side4 => exact HC0_4.out); rintro e w7 ⟨v301, v305, rfl, ho0, ho1, hb⟩; refine ⟨_, rfl, ?_⟩; have n0_ := A_ (Kd.R_lower ho0 (below_size (Z5 GE298.out GE299.out))); have n1_ := A_ (Kd.R_lower ho1 (below_size (Z5 GE298.out GE299.out))); have n2_ := A_ (blk_below (g := gb298) (o := .cells #[.int .i64 a0_0, .int .i64 a0_1, .slice A0_2 l0_2.length c0_2, .int .i64 a0_3, .slice A0_4 l0_4.length c0_4, .int .i64 a0_5] 122 (0, 0)) (Z2 BK298.out) hb); have n3_ := A_ (blk_below (g := gb299) (o := .cells #[.int .i64 0, .int .i64 0, .slice none 0 0, .int .i64 0, .slice none 0 0, .int .i64 0] 122 (0, 0)) (Z2 BK299.out) hb); have n4_ := A_ (below_step (Z5 GE298.out GE299.out) hb); clear BK298; clear BK299; clear HB; have HO302 := n0_; have HO306 := n1_; have BK298 := n2_; have BK299 := n3_; have HB := n4_; clear n0_ n1_ n2_ n3_ n4_; (try clear hb); (try clear hb2); (try clear hk); (try clear hi); (try clear ho0); (try clear ho1); obtain ⟨Ao8, co8, eo8⟩ := Kd.R_slice HO302.out; subst eo8; have hcz9_0 : w7.cell? ⟨gb298, 0, none⟩ = some (.int .i64 a0_0) := (blk_cell BK298.out 0).trans rfl; have hcz9_1 : w7.cell? ⟨gb298, 1, none⟩ = some (.int .i64 a0_1) := (blk_cell BK298.out 1).trans rfl; have hcz9_2 : w7.cell? ⟨gb298, 2, none⟩ = some (.slice A0_2 l0_2.length c0_2) := (blk_cell BK298.out 2).trans rfl; have hcz9_3 : w7.cell? ⟨gb298, 3, none⟩ = some (.int .i64 a0_3) := (blk_cell BK298.out 3).trans rfl; have hcz9_4 : w7.cell? ⟨gb298, 4, none⟩ = some (.slice A0_4 l0_4.length c0_4) := (blk_cell BK298.out 4).trans rfl; have hcz9_5 : w7.cell? ⟨gb298, 5, none⟩ = some (.int .i64 a0_5) := (blk_cell BK298.out 5).trans rfl; have hfz9_0 := blk_frozen BK298.out 0; have hfz9_1 := blk_frozen BK298.out 1; have hfz9_2 := blk_frozen BK298.out 2; have hfz9_3 := blk_frozen BK298.out 3; have hfz9_4 := blk_frozen BK298.out 4; have hfz9_5 := blk_frozen BK298.out 5; obtain ⟨Ao10, co10, eo10⟩ := Kd.R_slice HO306.out; subst eo10; have hcz11_0 : w7.cell? ⟨gb299, 0, none⟩ = some (.int .i64 0) := (blk_cell BK299.out 0).trans rfl; have hcz11_1 : w7.cell? ⟨gb299, 1, none⟩ = some (.int .i64 0) := (blk_cell BK299.out 1).trans rfl; have hcz11_2 : w7.cell? ⟨gb299, 2, none⟩ = some (.slice none 0 0) := (blk_cell BK299.out 2).trans rfl; have hcz11_3 : w7.cell? ⟨gb299, 3, none⟩ = some (.int .i64 0) := (blk_cell BK299.out 3).trans rfl; have hcz11_4 : w7.cell? ⟨gb299, 4, none⟩ = some (.slice none 0 0) := (blk_cell BK299.out 4).trans rfl; have hcz11_5 : w7.cell? ⟨gb299, 5, none⟩ = some (.int .i64 0) := (blk_cell BK299.out 5).trans rfl; have hfz11_0 := blk_frozen BK299.out 0; have hfz11_1 := blk_frozen BK299.out 1; have hfz11_2 := blk_frozen BK299.out 2; have hfz11_3 := blk_frozen BK299.out 3; have hfz11_4 := blk_frozen BK299.out 4; have hfz11_5 := blk_frozen BK299.out 5))
 refine bodyPost_ret (results_cell_row rfl _ _ gb299 122 #[.int .i64 a0_0, .int .i64 a0_1, .slice Ao8 t300.length co8, .int .i64 t303, .slice Ao10 t304.length co10, .int .i64 t307] (0, 0) _ rfl (by (with_reducible repeat (first | refine blk_drewN ?_ _ | refine blk_drew ?_ | refine blk_alloc ?_ _)); refine blk_put (cs := #[.int .i64 a0_0, .int .i64 a0_1, .slice Ao8 t300.length co8, .int .i64 t303, .slice Ao10 t304.length co10, .int .i64 0]) ?_ 5 _ rfl; (with_reducible repeat (first | refine blk_drewN ?_ _ | refine blk_drew ?_ | refine blk_alloc ?_ _)); refine blk_put (cs := #[.int .i64 a0_0, .int .i64 a0_1, .slice Ao8 t300.length co8, .int .i64 t303, .slice none 0 0, .int .i64 0]) ?_ 4 _ rfl; (with_reducible repeat (first | refine blk_drewN ?_ _ | refine blk_drew ?_ | refine blk_alloc ?_ _)); refine blk_put (cs := #[.int .i64 a0_0, .int .i64 a0_1, .slice Ao8 t300.length co8, .int .i64 0, .slice none 0 0, .int .i64 0]) ?_ 3 _ rfl; (with_reducible repeat (first | refine blk_drewN ?_ _ | refine blk_drew ?_ | refine blk_alloc ?_ _)); refine blk_put (cs := #[.int .i64 a0_0, .int .i64 a0_1, .slice none 0 0, .int .i64 0, .slice none 0 0, .int .i64 0]) ?_ 2 _ rfl; (with_reducible repeat (first | refine blk_drewN ?_ _ | refine blk_drew ?_ | refine blk_alloc ?_ _)); refine blk_put (cs := #[.int .i64 a0_0, .int .i64 0, .slice none 0 0, .int .i64 0, .slice none 0 0, .int .i64 0]) ?_ 1 _ rfl; (with_reducible repeat (first | refine blk_drewN ?_ _ | refine blk_drew ?_ | refine blk_alloc ?_ _)); refine blk_put (cs := #[.int .i64 0, .int .i64 0, .slice none 0 0, .int .i64 0, .slice none 0 0, .int .i64 0]) ?_ 0 _ rfl; (with_reducible repeat (first | refine blk_drewN ?_ _ | refine blk_drew ?_ | refine blk_alloc ?_ _)); refine blk_far ?_ NB299_298.out _; (with_reducible repeat (first | refine blk_drewN ?_ _ | refine blk_drew ?_ | refine blk_alloc ?_ _)); refine blk_far ?_ NB299_298.out _; (with_reducible repeat (first | refine blk_drewN ?_ _ | refine blk_drew ?_ | refine blk_alloc ?_ _)); refine blk_far ?_ NB299_298.out _; (with_reducible repeat (first | refine blk_drewN ?_ _ | refine blk_drew ?_ | refine blk_alloc ?_ _)); refine blk_far ?_ NB299_298.out _; (with_reducible repeat (first | refine blk_drewN ?_ _ | refine blk_drew ?_ | refine blk_alloc ?_ _)); exact BK299.out) Try.underlying122 rfl (by kernel_rfl)) rfl ?_
 exact ⟨_, _, Z4, by (with_reducible repeat (first | apply Kd.R_alloc | apply Kd.R_drewN | apply Kd.R_drew)); exact Kd.R_mono (Kd.R_far (p := ⟨gb299, 5, none⟩) (Kd.R_far (p := ⟨gb299, 4, none⟩) (Kd.R_far (p := ⟨gb299, 3, none⟩) (Kd.R_far (p := ⟨gb299, 2, none⟩) (Kd.R_far (p := ⟨gb299, 1, none⟩) (Kd.R_far (p := ⟨gb299, 0, none⟩) (Kd.R_far (p := ⟨gb298, 5, none⟩) (Kd.R_far (p := ⟨gb298, 4, none⟩) (Kd.R_far (p := ⟨gb298, 3, none⟩) (Kd.R_far (p := ⟨gb298, 2, none⟩) (Kd.R_types (Kd.R_types HO302.out BK298.out (by decide)) BK299.out (by decide)) (fun _ hk => hk.1.2) (.slice Ao8 t300.length co8)) (fun _ hk => hk.1.2) (.int .i64 t303)) (fun _ hk => hk.1.2) (.slice Ao10 t304.length co10)) (fun _ hk => hk.1.2) (.int .i64 t307)) (fun _ hk => hk.2) (.int .i64 a0_0)) (fun _ hk => hk.2) (.int .i64 a0_1)) (fun _ hk => hk.2) (.slice Ao8 t300.length co8)) (fun _ hk => hk.2) (.int .i64 t303)) (fun _ hk => hk.2) (.slice Ao10 t304.length co10)) (fun _ hk => hk.2) (.int .i64 t307)) (fun _ hk => trivial), by (with_reducible repeat (first | apply Kd.R_alloc | apply Kd.R_drewN | apply Kd.R_drew)); exact Kd.R_mono (Kd.R_far (p := ⟨gb299, 5, none⟩) (Kd.R_far (p := ⟨gb299, 4, none⟩) (Kd.R_far (p := ⟨gb299, 3, none⟩) (Kd.R_far (p := ⟨gb299, 2, none⟩) (Kd.R_far (p := ⟨gb299, 1, none⟩) (Kd.R_far (p := ⟨gb299, 0, none⟩) (Kd.R_far (p := ⟨gb298, 5, none⟩) (Kd.R_far (p := ⟨gb298, 4, none⟩) (Kd.R_far (p := ⟨gb298, 3, none⟩) (Kd.R_far (p := ⟨gb298, 2, none⟩) (Kd.R_types (Kd.R_types HO306.out BK298.out (by decide)) BK299.out (by decide)) (fun _ hk => hk.1.2) (.slice Ao8 t300.length co8)) (fun _ hk => hk.1.2) (.int .i64 t303)) (fun _ hk => hk.1.2) (.slice Ao10 t304.length co10)) (fun _ hk => hk.1.2) (.int .i64 t307)) (fun _ hk => hk.2) (.int .i64 a0_0)) (fun _ hk => hk.2) (.int .i64 a0_1)) (fun _ hk => hk.2) (.slice Ao8 t300.length co8)) (fun _ hk => hk.2) (.int .i64 t303)) (fun _ hk => hk.2) (.slice Ao10 t304.length co10)) (fun _ hk => hk.2) (.int .i64 t307)) (fun _ hk => trivial), Z5 GE298.out GE299.out⟩
end Go.Proofs.Ytpadhphdglbciaa.PFnExactTurnsCut
