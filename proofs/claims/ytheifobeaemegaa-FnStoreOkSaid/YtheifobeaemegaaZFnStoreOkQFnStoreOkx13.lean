/- Walks of the functions that the law 'FnStoreOk' reaches, part 13: for each a Lean function and the proof that Go's comes to just its answer (lines of the print, under own names; no condition). -/
import Derived.Test.YtheifobeaemegaaZFnStoreOkQFnStoreOkx0
import Derived.Test.YtheifobeaemegaaZFnStoreOkQFnStoreOkx6
import Derived.Test.YtheifobeaemegaaZFnStoreOkQFnStoreOkx9
import Derived.Test.YtheifobeaemegaaZFnStoreOkQFnStoreOkx12
namespace Go.Proofs.Ytheifobeaemegaa.PFnStoreOk
open Go.RowKit Go.Proofs.YtheifobeaemegaaW.PrintWords Go.Proofs.YtheifobeaemegaaW.PrintLast Go.Proofs.YtheifobeaemegaaW.PrintMore
attribute [local go_sem] max2_int min2_int max_two min_two max_three min_three max_four min_four
set_option linter.unusedVariables false
set_option linter.unusedSimpArgs false
mutual
def laws_FnStoreOk.j0 : Nat → List (S41) → Bool → Bool → Option (Bool)
 | 0, _, _, _ => none
 | k + 1, x3, x6, x27 => if x27 = true then (some x6) else (laws_FnStoreOk.l0 k x3 0)
def laws_FnStoreOk.l0 : Nat → List (S41) → Int → Option (Bool)
 | 0, _, _ => none
 | k + 1, x3, x7 => if x7 < (x3.length : Int) then (if 0 ≤ x7 then ((impl_StoreGet.f k x3 ((rd_T41 x3 x7).f0)).bind fun bt379 => (if bt379.2 = true then ((spec_SameVals.f k bt379.1 ((rd_T41 x3 x7).f1)).bind fun t384 => (if t384 = true then (laws_FnStoreOk.l0 k x3 (wrap64 (x7 + 1))) else (some false))) else (some false))) else (none)) else (some true)
end
def laws_FnStoreOk.f (k : Nat) (l0 : List Int) : Option (Bool) := if (l0.length : Int) > 1048576 then (some true) else ((spec_DrawStoreOk.f k l0).bind fun t373 => ((impl_StoreOk.f k t373).bind fun t376 => ((spec_StoreOk.f k t373).bind fun t377 => (if ((t376 == t377) = true) then (laws_FnStoreOk.j0 k t373 (t376 == t377) (!t376)) else (laws_FnStoreOk.j0 k t373 (t376 == t377) true)))))
theorem laws_FnStoreOk.mono_l : ∀ k, (∀ y0 y1 y2, LeO (laws_FnStoreOk.j0 k y0 y1 y2) (laws_FnStoreOk.j0 (k + 1) y0 y1 y2)) ∧ (∀ y0 y1, LeO (laws_FnStoreOk.l0 k y0 y1) (laws_FnStoreOk.l0 (k + 1) y0 y1))
 | 0 => ⟨fun _ _ _ r h => by simp [laws_FnStoreOk.j0] at h, fun _ _ r h => by simp [laws_FnStoreOk.l0] at h⟩
 | k + 1 => by
  obtain ⟨ih0, ih1⟩ := laws_FnStoreOk.mono_l k
  refine ⟨?_, ?_⟩
  ·intro y0 y1 y2
   unfold laws_FnStoreOk.j0
   repeat' first
   | (with_reducible exact ih0 _ _ _)
   | (with_reducible exact ih1 _ _)
   | (with_reducible exact impl_StoreGet.mono _ _ _)
   | (with_reducible exact impl_StoreOk.mono _ _)
   | (with_reducible exact spec_DrawStoreOk.mono _ _)
   | (with_reducible exact spec_SameVals.mono _ _ _)
   | (with_reducible exact spec_StoreOk.mono _ _)
   | (with_reducible exact LeO.refl _)
   | (with_reducible exact LeO.none _)
   | (with_reducible refine LeO.ite ?_ ?_)
   | (with_reducible refine LeO.bind ?_ (fun _ => ?_))
   | exact ih0 _ _ _
   | exact ih1 _ _
   | exact impl_StoreGet.mono _ _ _
   | exact impl_StoreOk.mono _ _
   | exact spec_DrawStoreOk.mono _ _
   | exact spec_SameVals.mono _ _ _
   | exact spec_StoreOk.mono _ _
   | exact LeO.none _
   | refine LeO.ite ?_ ?_
   | refine LeO.bind ?_ (fun _ => ?_)
  ·intro y0 y1
   unfold laws_FnStoreOk.l0
   repeat' first
   | (with_reducible exact ih0 _ _ _)
   | (with_reducible exact ih1 _ _)
   | (with_reducible exact impl_StoreGet.mono _ _ _)
   | (with_reducible exact impl_StoreOk.mono _ _)
   | (with_reducible exact spec_DrawStoreOk.mono _ _)
   | (with_reducible exact spec_SameVals.mono _ _ _)
   | (with_reducible exact spec_StoreOk.mono _ _)
   | (with_reducible exact LeO.refl _)
   | (with_reducible exact LeO.none _)
   | (with_reducible refine LeO.ite ?_ ?_)
   | (with_reducible refine LeO.bind ?_ (fun _ => ?_))
   | exact ih0 _ _ _
   | exact ih1 _ _
   | exact impl_StoreGet.mono _ _ _
   | exact impl_StoreOk.mono _ _
   | exact spec_DrawStoreOk.mono _ _
   | exact spec_SameVals.mono _ _ _
   | exact spec_StoreOk.mono _ _
   | exact LeO.none _
   | refine LeO.ite ?_ ?_
   | refine LeO.bind ?_ (fun _ => ?_)
theorem laws_FnStoreOk.mono : ∀ a0 k, LeO (laws_FnStoreOk.f k a0) (laws_FnStoreOk.f (k + 1) a0) := by
 intro a0 k
 obtain ⟨ih0, ih1⟩ := laws_FnStoreOk.mono_l k
 unfold laws_FnStoreOk.f
 repeat' first
   | (with_reducible exact ih0 _ _ _)
   | (with_reducible exact ih1 _ _)
   | (with_reducible exact impl_StoreGet.mono _ _ _)
   | (with_reducible exact impl_StoreOk.mono _ _)
   | (with_reducible exact spec_DrawStoreOk.mono _ _)
   | (with_reducible exact spec_SameVals.mono _ _ _)
   | (with_reducible exact spec_StoreOk.mono _ _)
   | (with_reducible exact LeO.refl _)
   | (with_reducible exact LeO.none _)
   | (with_reducible refine LeO.ite ?_ ?_)
   | (with_reducible refine LeO.bind ?_ (fun _ => ?_))
   | exact ih0 _ _ _
   | exact ih1 _ _
   | exact impl_StoreGet.mono _ _ _
   | exact impl_StoreOk.mono _ _
   | exact spec_DrawStoreOk.mono _ _
   | exact spec_SameVals.mono _ _ _
   | exact spec_StoreOk.mono _ _
   | exact LeO.none _
   | refine LeO.ite ?_ ?_
   | refine LeO.bind ?_ (fun _ => ?_)
set_option maxHeartbeats 8000000 in
set_option maxRecDepth 100000 in
theorem laws_FnStoreOk.calls (k : Nat) (A0 : Option Addr) (c0 : Nat) (l0 : List Int) (r : Bool) (w : World) (hr0 : Kd.C (Kd.int .u8) w A0 l0.length l0) (hc0 : l0.length ≤ c0) (h : laws_FnStoreOk.f k l0 = some r) :
  Calls Try.prog 5 #[.slice A0 l0.length c0] w fun e w' => e = .returned (.bool r) ∧ Below w.heap.size w w' := by
 have HR0 := A_ hr0
 have HC0 := A_ hc0
 clear hr0 hc0
 have HB := A_ (Below.refl w.heap.size w)
 have H : (if (l0.length : Int) > 1048576 then (some true) else ((spec_DrawStoreOk.f k l0).bind fun t373 => ((impl_StoreOk.f k t373).bind fun t376 => ((spec_StoreOk.f k t373).bind fun t377 => (if ((t376 == t377) = true) then (laws_FnStoreOk.j0 k t373 (t376 == t377) (!t376)) else (laws_FnStoreOk.j0 k t373 (t376 == t377) true)))))) = some r := h
 clear h
 by_cases c2 : (l0.length : Int) > 1048576
 ·rw [if_pos c2] at H
  have c2b0 : decide (1048576 < (l0.length : Int)) = true := decide_eq_true c2
  have c2b1 : decide (1048576 < l0.length) = true := decide_eq_true (by omega)
  clear c2
  obtain rfl := Option.some.inj H
  go_enter Try.func5, Try.ntmps5
  go_wp2
  go_ret
  exact ⟨Z17, Z1⟩
 ·rw [if_neg c2] at H
  have c2b0 : decide (1048576 < (l0.length : Int)) = false := decide_eq_false c2
  have c2b1 : decide (1048576 < l0.length) = false := decide_eq_false (by omega)
  clear c2
  replace H := Option.bind_eq_some_iff.mp H
  obtain ⟨t373, A30, H⟩ := H
  replace H : ((impl_StoreOk.f k t373).bind fun t376 => ((spec_StoreOk.f k t373).bind fun t377 => (if ((t376 == t377) = true) then (laws_FnStoreOk.j0 k t373 (t376 == t377) (!t376)) else (laws_FnStoreOk.j0 k t373 (t376 == t377) true)))) = some r := H
  have A3 := A_ A30
  clear A30
  replace H := Option.bind_eq_some_iff.mp H
  obtain ⟨t376, A40, H⟩ := H
  replace H : ((spec_StoreOk.f k t373).bind fun t377 => (if ((t376 == t377) = true) then (laws_FnStoreOk.j0 k t373 (t376 == t377) (!t376)) else (laws_FnStoreOk.j0 k t373 (t376 == t377) true))) = some r := H
  have A4 := A_ A40
  clear A40
  replace H := Option.bind_eq_some_iff.mp H
  obtain ⟨t377, A50, H⟩ := H
  replace H : (if ((t376 == t377) = true) then (laws_FnStoreOk.j0 k t373 (t376 == t377) (!t376)) else (laws_FnStoreOk.j0 k t373 (t376 == t377) true)) = some r := H
  have A5 := A_ A50
  clear A50
  have HC6 := A_ H
  clear H
  go_enter Try.func5, Try.ntmps5
  go_upto_region 7 with (first | ((with_reducible refine gate_callee (f := 15) rfl ?_); refine goesL_ (some 14) rfl rfl Try.func15 (by kernel_rfl) rfl #[.slice A0 l0.length c0] rfl Z3 ?_; (with_reducible refine (spec_DrawStoreOk.calls k _ _ l0 t373 _ ?side1 ?side2 A3.out).mono ?_); (case side1 => exact Z29 HR0.out); (case side2 => exact HC0.out); rintro e w7 ⟨v374, rfl, ho0, hb⟩; refine ⟨_, rfl, ?_⟩; have n0_ := A_ (Kd.N_lower (Kd.N_mono (ok' := fun k_ => True) ho0 (fun k_ hk_ => trivial)) (below_size Z1)); have n1_ := A_ (below_step Z1 hb); clear HB; have HO375 := n0_; have HB := n1_; clear n0_ n1_; (try clear hb); (try clear hb2); (try clear hk); (try clear hi); (try clear ho0); obtain ⟨Ao8, co8, eo8⟩ := Kd.N_slice HO375.out; subst eo8) | ((with_reducible refine gate_callee (f := 16) rfl ?_); refine goesL_ (some 16) rfl rfl Try.func16 (by kernel_rfl) rfl #[.slice Ao8 t373.length co8] rfl Z3 ?_; (with_reducible refine (impl_StoreOk.calls k _ _ t373 t376 _ ?side1 ?side2 A4.out).mono ?_); (case side1 => exact Z35 HO375.out); (case side2 => exact (Kd.N_reads' HO375.out).2.1); rintro e w9 ⟨rfl, hb⟩; refine ⟨_, rfl, ?_⟩; have n0_ := A_ (Kd.N_below (Z22 HO375.out) hb); have n1_ := A_ (below_step Z1 hb); clear HO375; clear HB; have HO375 := n0_; have HB := n1_; clear n0_ n1_; (try clear hb); (try clear hb2); (try clear hk); (try clear hi)) | ((with_reducible refine gate_callee (f := 17) rfl ?_); refine goesL_ (some 18) rfl rfl Try.func17 (by kernel_rfl) rfl #[.slice Ao8 t373.length co8] rfl Z3 ?_; (with_reducible refine (spec_StoreOk.calls k _ _ t373 t377 _ ?side1 ?side2 A5.out).mono ?_); (case side1 => exact Z35 HO375.out); (case side2 => exact (Kd.N_reads' HO375.out).2.1); rintro e w10 ⟨rfl, hb⟩; refine ⟨_, rfl, ?_⟩; have n0_ := A_ (Kd.N_below (Z22 HO375.out) hb); have n1_ := A_ (below_step Z1 hb); clear HO375; clear HB; have HO375 := n0_; have HB := n1_; clear n0_ n1_; (try clear hb); (try clear hb2); (try clear hk); (try clear hi)))
  (try simp only [Act.put, List.setIfInBounds_toArray, List.set_cons_zero, List.set_cons_succ])
  obtain ⟨bq, hbq⟩ : ∃ b : Bool, (t376 == t377) = b := ⟨_, rfl⟩
  (try rw [hbq] at HC6)
  (try rw [hbq])
  clear hbq
  go_cut [27] (fun v27 wc => ∃ (kq : Nat) (x27_5 : Bool), v27 = .bool x27_5 ∧ Aside0 (laws_FnStoreOk.j0 kq t373 bq x27_5 = some r) ∧ Aside0 (kq ≤ k) ∧ Aside0 (Kd.N k41 41 wc w.heap.size (fun _ => True) (.slice Ao8 t373.length co8) t373) ∧ Aside0 (Below w.heap.size w wc))
  case first =>
   have H := HC6.out
   clear HC6
   by_cases c11 : (bq = true)
   ·rw [if_pos c11] at H
    have c11b0 : bq = true := c11
    clear c11
    subst c11b0
    have H' := A_ H
    clear H
    go_wp2
    go_meet
    case rel => exact ⟨_, (!t376), Z21, H', ⟨by first | omega | exact Nat.le_refl _⟩, ⟨Z22 HO375.out⟩, ⟨Z1⟩⟩
   ·rw [if_neg c11] at H
    have c11b0 : bq = false := by simpa using c11
    clear c11
    subst c11b0
    have H' := A_ H
    clear H
    go_wp2
    go_meet
    case rel => exact ⟨_, (true), Z21, H', ⟨by first | omega | exact Nat.le_refl _⟩, ⟨Z22 HO375.out⟩, ⟨Z1⟩⟩
  case rest =>
   clear HC6
   try clear c1
   try clear c2
   try clear c2b0
   try clear c2b1
   try clear p2
   try clear c5
   try clear c11
   try clear c11b0
   try clear c11b1
   try clear c11b2
   obtain ⟨kq, x27_5, rfl, HA, HJ5, HO_3, HB⟩ := hcut
   cases kq with
   | zero => exact absurd HA.out (by simp [laws_FnStoreOk.j0])
   | succ kj5 =>
    have H := HA.out
    clear HA
    simp only [laws_FnStoreOk.j0] at H
    by_cases c12 : x27_5 = true
    ·subst c12
     have H1 : (some bq) = some r := by rw [if_pos rfl] at H; exact H
     clear H
     have H := H1
     clear H1
     obtain rfl := Option.some.inj H
     go_wp2
     go_ret
     exact ⟨Z17, Z1⟩
    ·replace c12 := Bool.eq_false_iff.mpr c12
     subst c12
     have H1 : (laws_FnStoreOk.l0 kj5 t373 0) = some r := by rw [if_neg (show ¬ (false = true) by decide)] at H; exact H
     clear H
     have H := H1
     clear H1
     have H' := A_ H
     clear H
     go_wp2
     go_loopg [7] kj5 (fun kq v7 w' => ∃ (x7_2 : Int), v7 = .int .i64 x7_2 ∧ Aside0 (laws_FnStoreOk.l0 kq t373 x7_2 = some r) ∧ Aside0 (kq ≤ kj5) ∧ Aside0 (Kd.N k41 41 w' w.heap.size (fun _ => True) (.slice Ao8 t373.length co8) t373) ∧ Aside0 (Below w.heap.size w w'))
     case atStart => exact ⟨(0), Z21, H', ⟨Nat.le_refl _⟩, ⟨Z22 HO_3.out⟩, ⟨Z1⟩⟩
     case round =>
      clear H'
      try clear c1
      try clear c2
      try clear c2b0
      try clear c2b1
      try clear p2
      try clear c5
      try clear c11
      try clear c11b0
      try clear c11b1
      try clear c11b2
      try clear c12
      try clear p2
      obtain ⟨x7_2, rfl, HA, HK2, HO_3, HB⟩ := hrel
      cases gk with
      | zero => exact absurd HA.out (by simp [laws_FnStoreOk.l0])
      | succ k2 =>
       have H := HA.out
       clear HA
       simp only [laws_FnStoreOk.l0] at H
       by_cases c13 : x7_2 < (t373.length : Int)
       ·rw [if_pos c13] at H
        have c13b0 : decide (x7_2 < (t373.length : Int)) = true := decide_eq_true c13
        clear c13
        by_cases c14 : 0 ≤ x7_2
        ·rw [if_pos c14] at H
         have c14b0 : decide (0 ≤ x7_2) = true := decide_eq_true c14
         clear c14
         replace H := Option.bind_eq_some_iff.mp H
         obtain ⟨⟨t379, t380⟩, A150, H⟩ := H
         replace H : (if t380 = true then ((spec_SameVals.f k2 t379 ((rd_T41 t373 x7_2).f1)).bind fun t384 => (if t384 = true then (laws_FnStoreOk.l0 k2 t373 (wrap64 (x7_2 + 1))) else (some false))) else (some false)) = some r := H
         have A15 := A_ A150
         clear A150
         by_cases c16 : t380 = true
         ·subst c16
          have H1 : ((spec_SameVals.f k2 t379 ((rd_T41 t373 x7_2).f1)).bind fun t384 => (if t384 = true then (laws_FnStoreOk.l0 k2 t373 (wrap64 (x7_2 + 1))) else (some false))) = some r := by rw [if_pos rfl] at H; exact H
          clear H
          have H := H1
          clear H1
          replace H := Option.bind_eq_some_iff.mp H
          obtain ⟨t384, A170, H⟩ := H
          replace H : (if t384 = true then (laws_FnStoreOk.l0 k2 t373 (wrap64 (x7_2 + 1))) else (some false)) = some r := H
          have A17 := A_ A170
          clear A170
          by_cases c18 : t384 = true
          ·subst c18
           have H1 : (laws_FnStoreOk.l0 k2 t373 (wrap64 (x7_2 + 1))) = some r := by rw [if_pos rfl] at H; exact H
           clear H
           have H := H1
           clear H1
           have H' := A_ H
           clear H
           have p378 : 0 ≤ (x7_2 : Int) := of_decide_eq_true Z13
           have q378 : x7_2 < (t373.length : Int) := of_decide_eq_true Z13
           obtain ⟨ad378, A378_0, c378_0, A378_1, c378_1, e378, hx378_0, hx378_1, hl378_0, hi378_0, hl378_1, hi378_1⟩ := at_T41 (Kd.N_reads' HO_3.out).2.2 x7_2 p378 q378
           cases e378
           obtain ⟨ce378, hce378, hMe378, hcc378⟩ := Kd.N_get HO_3.out z41 x7_2 p378 (by first | exact q378 | exact of_decide_eq_true Z13 | (have e_ := (Kd.N_reads' HO_3.out).1; omega))
           obtain ⟨ua378_0, uc378_0, ua378_1, uc378_1, rfl, ul378_0, ge378_0, ul378_1, ge378_1⟩ := k41_openF hMe378
           have hv378_0 := hcc378 0 _ rfl
           rw [Nat.add_zero] at hv378_0
           replace hv378_0 := Option.some.inj (hv378_0.symm.trans hx378_0)
           injection hv378_0 with hva_ hvn_ hvc_
           rw [hva_] at ge378_0
           rw [hvc_] at ul378_0
           have HL378_0 := A_ (show Kd.V k68 68 _ w.heap.size _ _ ((rd_T41 t373 x7_2).f0) from Kd.V_mk ul378_0 ge378_0)
           clear hva_ hvn_ hvc_ ge378_0 ul378_0
           have hv378_1 := hcc378 1 _ rfl
           rw [add_field _ _ 1 (by omega)] at hv378_1
           replace hv378_1 := Option.some.inj (hv378_1.symm.trans hx378_1)
           injection hv378_1 with hva_ hvn_ hvc_
           rw [hva_] at ge378_1
           rw [hvc_] at ul378_1
           have HL378_1 := A_ (show Kd.V k28 28 _ w.heap.size _ _ ((rd_T41 t373 x7_2).f1) from Kd.V_mk ul378_1 ge378_1)
           clear hva_ hvn_ hvc_ ge378_1 ul378_1
           clear hcc378 hce378
           have HR378_0 := A_ hi378_0
           have HC378_0 := A_ hl378_0
           clear hi378_0 hl378_0
           have HR378_1 := A_ hi378_1
           have HC378_1 := A_ hl378_1
           clear hi378_1 hl378_1
           replace p378 := eq_true p378
           replace q378 := eq_true q378
           go_wp2_with (first | ((with_reducible refine gate_callee (f := 18) rfl ?_); refine goesL_ (some 42) rfl rfl Try.func18 (by kernel_rfl) rfl #[.slice (some ad378) t373.length co8, .slice A378_0 ((rd_T41 t373 x7_2).f0).length c378_0] rfl Z3 ?_; (with_reducible refine (impl_StoreGet.calls k2 _ _ t373 _ _ ((rd_T41 t373 x7_2).f0) t379 true _ ?side1 ?side2 ?side3 ?side4 A15.out).mono ?_); (case side1 => exact Z35 HO_3.out); (case side2 => exact (Kd.N_reads' HO_3.out).2.1); (case side3 => exact Z41 HR378_0.out); (case side4 => exact HC378_0.out); rintro e w19 ⟨v381, rfl, ho0, hb⟩; refine ⟨_, rfl, ?_⟩; have n0_ := A_ (Kd.N_elder' (Z22 HO_3.out) (Kd.R_base ho0) hb); have n1_ := A_ (Kd.V_elder' (Z31 HL378_0.out) (Kd.R_base ho0) hb); have n2_ := A_ (Kd.V_elder' (Z31 HL378_1.out) (Kd.R_base ho0) hb); have n3_ := A_ (Kd.R_lower ho0 (below_size Z1)); have n4_ := A_ (Kd.C_below (Z26 HR378_0.out) hb); have n5_ := A_ (Kd.C_below (Z26 HR378_1.out) hb); have n6_ := A_ (below_step Z1 hb); clear HO_3; clear HL378_0; clear HL378_1; clear HR378_0; clear HR378_1; clear HB; have HO_3 := n0_; have HL378_0 := n1_; have HL378_1 := n2_; have HO382 := n3_; have HR378_0 := n4_; have HR378_1 := n5_; have HB := n6_; clear n0_ n1_ n2_ n3_ n4_ n5_ n6_; (try clear hb); (try clear hb2); (try clear hk); (try clear hi); (try clear ho0); have p383 : 0 ≤ (x7_2 : Int) := of_decide_eq_true Z13; have q383 : x7_2 < (t373.length : Int) := of_decide_eq_true Z13; obtain ⟨ad383, A383_0, c383_0, A383_1, c383_1, e383, hx383_0, hx383_1, hl383_0, hi383_0, hl383_1, hi383_1⟩ := at_T41 (Kd.N_reads' HO_3.out).2.2 x7_2 p383 q383; obtain rfl : ad378 = ad383 := (by injection e383); obtain ⟨ce383, hce383, hMe383, hcc383⟩ := Kd.N_get HO_3.out z41 x7_2 p383 (by first | exact q383 | exact of_decide_eq_true Z13 | (have e_ := (Kd.N_reads' HO_3.out).1; omega)); obtain ⟨ua383_0, uc383_0, ua383_1, uc383_1, rfl, ul383_0, ge383_0, ul383_1, ge383_1⟩ := k41_openF hMe383; have hv383_0 := hcc383 0 _ rfl; rw [Nat.add_zero] at hv383_0; replace hv383_0 := Option.some.inj (hv383_0.symm.trans hx383_0); injection hv383_0 with hva_ hvn_ hvc_; rw [hva_] at ge383_0; rw [hvc_] at ul383_0; have HL383_0 := A_ (show Kd.V k68 68 _ w.heap.size _ _ ((rd_T41 t373 x7_2).f0) from Kd.V_mk ul383_0 ge383_0); clear hva_ hvn_ hvc_ ge383_0 ul383_0; have hv383_1 := hcc383 1 _ rfl; rw [add_field _ _ 1 (by omega)] at hv383_1; replace hv383_1 := Option.some.inj (hv383_1.symm.trans hx383_1); injection hv383_1 with hva_ hvn_ hvc_; rw [hva_] at ge383_1; rw [hvc_] at ul383_1; have HL383_1 := A_ (show Kd.V k28 28 _ w.heap.size _ _ ((rd_T41 t373 x7_2).f1) from Kd.V_mk ul383_1 ge383_1); clear hva_ hvn_ hvc_ ge383_1 ul383_1; clear hcc383 hce383; have HR383_0 := A_ hi383_0; have HC383_0 := A_ hl383_0; clear hi383_0 hl383_0; have HR383_1 := A_ hi383_1; have HC383_1 := A_ hl383_1; clear hi383_1 hl383_1; replace p383 := eq_true p383; replace q383 := eq_true q383; obtain ⟨Ao20, co20, eo20⟩ := Kd.R_slice HO382.out; subst eo20) | (go_at_call 19; (with_reducible refine (spec_SameVals.calls k2 _ _ t379 _ _ ((rd_T41 t373 x7_2).f1) true _ ?side1 ?side2 ?side3 ?side4 A17.out).mono ?_); (case side1 => exact Z30 HO382.out); (case side2 => exact (Kd.R_reads' HO382.out).2.1); (case side3 => exact Z41 HR383_1.out); (case side4 => exact HC383_1.out); rintro e w' ⟨rfl, ⟨nd, rfl⟩⟩))
           go_roundg k2
           case measure => have := HJ5.out; have := HK2.out; omega
           case rel => exact ⟨(wrap64 (x7_2 + 1)), Z21, H', ⟨by have := HJ5.out; have := HK2.out; omega⟩, ⟨by (with_reducible repeat (first | apply Kd.N_alloc | apply Kd.N_drewN | apply Kd.N_drew)); exact Kd.N_mono HO_3.out (fun _ hk => trivial)⟩, ⟨Z1⟩⟩
          ·replace c18 := Bool.eq_false_iff.mpr c18
           subst c18
           have H1 : (some false) = some r := by rw [if_neg (show ¬ (false = true) by decide)] at H; exact H
           clear H
           have H := H1
           clear H1
           obtain rfl := Option.some.inj H
           have p378 : 0 ≤ (x7_2 : Int) := of_decide_eq_true Z13
           have q378 : x7_2 < (t373.length : Int) := of_decide_eq_true Z13
           obtain ⟨ad378, A378_0, c378_0, A378_1, c378_1, e378, hx378_0, hx378_1, hl378_0, hi378_0, hl378_1, hi378_1⟩ := at_T41 (Kd.N_reads' HO_3.out).2.2 x7_2 p378 q378
           cases e378
           obtain ⟨ce378, hce378, hMe378, hcc378⟩ := Kd.N_get HO_3.out z41 x7_2 p378 (by first | exact q378 | exact of_decide_eq_true Z13 | (have e_ := (Kd.N_reads' HO_3.out).1; omega))
           obtain ⟨ua378_0, uc378_0, ua378_1, uc378_1, rfl, ul378_0, ge378_0, ul378_1, ge378_1⟩ := k41_openF hMe378
           have hv378_0 := hcc378 0 _ rfl
           rw [Nat.add_zero] at hv378_0
           replace hv378_0 := Option.some.inj (hv378_0.symm.trans hx378_0)
           injection hv378_0 with hva_ hvn_ hvc_
           rw [hva_] at ge378_0
           rw [hvc_] at ul378_0
           have HL378_0 := A_ (show Kd.V k68 68 _ w.heap.size _ _ ((rd_T41 t373 x7_2).f0) from Kd.V_mk ul378_0 ge378_0)
           clear hva_ hvn_ hvc_ ge378_0 ul378_0
           have hv378_1 := hcc378 1 _ rfl
           rw [add_field _ _ 1 (by omega)] at hv378_1
           replace hv378_1 := Option.some.inj (hv378_1.symm.trans hx378_1)
           injection hv378_1 with hva_ hvn_ hvc_
           rw [hva_] at ge378_1
           rw [hvc_] at ul378_1
           have HL378_1 := A_ (show Kd.V k28 28 _ w.heap.size _ _ ((rd_T41 t373 x7_2).f1) from Kd.V_mk ul378_1 ge378_1)
           clear hva_ hvn_ hvc_ ge378_1 ul378_1
           clear hcc378 hce378
           have HR378_0 := A_ hi378_0
           have HC378_0 := A_ hl378_0
           clear hi378_0 hl378_0
           have HR378_1 := A_ hi378_1
           have HC378_1 := A_ hl378_1
           clear hi378_1 hl378_1
           replace p378 := eq_true p378
           replace q378 := eq_true q378
           go_wp2_with (first | ((with_reducible refine gate_callee (f := 18) rfl ?_); refine goesL_ (some 42) rfl rfl Try.func18 (by kernel_rfl) rfl #[.slice (some ad378) t373.length co8, .slice A378_0 ((rd_T41 t373 x7_2).f0).length c378_0] rfl Z3 ?_; (with_reducible refine (impl_StoreGet.calls k2 _ _ t373 _ _ ((rd_T41 t373 x7_2).f0) t379 true _ ?side1 ?side2 ?side3 ?side4 A15.out).mono ?_); (case side1 => exact Z35 HO_3.out); (case side2 => exact (Kd.N_reads' HO_3.out).2.1); (case side3 => exact Z41 HR378_0.out); (case side4 => exact HC378_0.out); rintro e w21 ⟨v381, rfl, ho0, hb⟩; refine ⟨_, rfl, ?_⟩; have n0_ := A_ (Kd.N_elder' (Z22 HO_3.out) (Kd.R_base ho0) hb); have n1_ := A_ (Kd.V_elder' (Z31 HL378_0.out) (Kd.R_base ho0) hb); have n2_ := A_ (Kd.V_elder' (Z31 HL378_1.out) (Kd.R_base ho0) hb); have n3_ := A_ (Kd.R_lower ho0 (below_size Z1)); have n4_ := A_ (Kd.C_below (Z26 HR378_0.out) hb); have n5_ := A_ (Kd.C_below (Z26 HR378_1.out) hb); have n6_ := A_ (below_step Z1 hb); clear HO_3; clear HL378_0; clear HL378_1; clear HR378_0; clear HR378_1; clear HB; have HO_3 := n0_; have HL378_0 := n1_; have HL378_1 := n2_; have HO382 := n3_; have HR378_0 := n4_; have HR378_1 := n5_; have HB := n6_; clear n0_ n1_ n2_ n3_ n4_ n5_ n6_; (try clear hb); (try clear hb2); (try clear hk); (try clear hi); (try clear ho0); have p383 : 0 ≤ (x7_2 : Int) := of_decide_eq_true Z13; have q383 : x7_2 < (t373.length : Int) := of_decide_eq_true Z13; obtain ⟨ad383, A383_0, c383_0, A383_1, c383_1, e383, hx383_0, hx383_1, hl383_0, hi383_0, hl383_1, hi383_1⟩ := at_T41 (Kd.N_reads' HO_3.out).2.2 x7_2 p383 q383; obtain rfl : ad378 = ad383 := (by injection e383); obtain ⟨ce383, hce383, hMe383, hcc383⟩ := Kd.N_get HO_3.out z41 x7_2 p383 (by first | exact q383 | exact of_decide_eq_true Z13 | (have e_ := (Kd.N_reads' HO_3.out).1; omega)); obtain ⟨ua383_0, uc383_0, ua383_1, uc383_1, rfl, ul383_0, ge383_0, ul383_1, ge383_1⟩ := k41_openF hMe383; have hv383_0 := hcc383 0 _ rfl; rw [Nat.add_zero] at hv383_0; replace hv383_0 := Option.some.inj (hv383_0.symm.trans hx383_0); injection hv383_0 with hva_ hvn_ hvc_; rw [hva_] at ge383_0; rw [hvc_] at ul383_0; have HL383_0 := A_ (show Kd.V k68 68 _ w.heap.size _ _ ((rd_T41 t373 x7_2).f0) from Kd.V_mk ul383_0 ge383_0); clear hva_ hvn_ hvc_ ge383_0 ul383_0; have hv383_1 := hcc383 1 _ rfl; rw [add_field _ _ 1 (by omega)] at hv383_1; replace hv383_1 := Option.some.inj (hv383_1.symm.trans hx383_1); injection hv383_1 with hva_ hvn_ hvc_; rw [hva_] at ge383_1; rw [hvc_] at ul383_1; have HL383_1 := A_ (show Kd.V k28 28 _ w.heap.size _ _ ((rd_T41 t373 x7_2).f1) from Kd.V_mk ul383_1 ge383_1); clear hva_ hvn_ hvc_ ge383_1 ul383_1; clear hcc383 hce383; have HR383_0 := A_ hi383_0; have HC383_0 := A_ hl383_0; clear hi383_0 hl383_0; have HR383_1 := A_ hi383_1; have HC383_1 := A_ hl383_1; clear hi383_1 hl383_1; replace p383 := eq_true p383; replace q383 := eq_true q383; obtain ⟨Ao22, co22, eo22⟩ := Kd.R_slice HO382.out; subst eo22) | (go_at_call 19; (with_reducible refine (spec_SameVals.calls k2 _ _ t379 _ _ ((rd_T41 t373 x7_2).f1) false _ ?side1 ?side2 ?side3 ?side4 A17.out).mono ?_); (case side1 => exact Z30 HO382.out); (case side2 => exact (Kd.R_reads' HO382.out).2.1); (case side3 => exact Z41 HR383_1.out); (case side4 => exact HC383_1.out); rintro e w' ⟨rfl, ⟨nd, rfl⟩⟩))
           go_ret
           exact ⟨Z17, Z1⟩
         ·replace c16 := Bool.eq_false_iff.mpr c16
          subst c16
          have H1 : (some false) = some r := by rw [if_neg (show ¬ (false = true) by decide)] at H; exact H
          clear H
          have H := H1
          clear H1
          obtain rfl := Option.some.inj H
          have p378 : 0 ≤ (x7_2 : Int) := of_decide_eq_true Z13
          have q378 : x7_2 < (t373.length : Int) := of_decide_eq_true Z13
          obtain ⟨ad378, A378_0, c378_0, A378_1, c378_1, e378, hx378_0, hx378_1, hl378_0, hi378_0, hl378_1, hi378_1⟩ := at_T41 (Kd.N_reads' HO_3.out).2.2 x7_2 p378 q378
          cases e378
          obtain ⟨ce378, hce378, hMe378, hcc378⟩ := Kd.N_get HO_3.out z41 x7_2 p378 (by first | exact q378 | exact of_decide_eq_true Z13 | (have e_ := (Kd.N_reads' HO_3.out).1; omega))
          obtain ⟨ua378_0, uc378_0, ua378_1, uc378_1, rfl, ul378_0, ge378_0, ul378_1, ge378_1⟩ := k41_openF hMe378
          have hv378_0 := hcc378 0 _ rfl
          rw [Nat.add_zero] at hv378_0
          replace hv378_0 := Option.some.inj (hv378_0.symm.trans hx378_0)
          injection hv378_0 with hva_ hvn_ hvc_
          rw [hva_] at ge378_0
          rw [hvc_] at ul378_0
          have HL378_0 := A_ (show Kd.V k68 68 _ w.heap.size _ _ ((rd_T41 t373 x7_2).f0) from Kd.V_mk ul378_0 ge378_0)
          clear hva_ hvn_ hvc_ ge378_0 ul378_0
          have hv378_1 := hcc378 1 _ rfl
          rw [add_field _ _ 1 (by omega)] at hv378_1
          replace hv378_1 := Option.some.inj (hv378_1.symm.trans hx378_1)
          injection hv378_1 with hva_ hvn_ hvc_
          rw [hva_] at ge378_1
          rw [hvc_] at ul378_1
          have HL378_1 := A_ (show Kd.V k28 28 _ w.heap.size _ _ ((rd_T41 t373 x7_2).f1) from Kd.V_mk ul378_1 ge378_1)
          clear hva_ hvn_ hvc_ ge378_1 ul378_1
          clear hcc378 hce378
          have HR378_0 := A_ hi378_0
          have HC378_0 := A_ hl378_0
          clear hi378_0 hl378_0
          have HR378_1 := A_ hi378_1
          have HC378_1 := A_ hl378_1
          clear hi378_1 hl378_1
          replace p378 := eq_true p378
          replace q378 := eq_true q378
          go_wp2_with (first | ((with_reducible refine gate_callee (f := 18) rfl ?_); refine goesL_ (some 42) rfl rfl Try.func18 (by kernel_rfl) rfl #[.slice (some ad378) t373.length co8, .slice A378_0 ((rd_T41 t373 x7_2).f0).length c378_0] rfl Z3 ?_; (with_reducible refine (impl_StoreGet.calls k2 _ _ t373 _ _ ((rd_T41 t373 x7_2).f0) t379 false _ ?side1 ?side2 ?side3 ?side4 A15.out).mono ?_); (case side1 => exact Z35 HO_3.out); (case side2 => exact (Kd.N_reads' HO_3.out).2.1); (case side3 => exact Z41 HR378_0.out); (case side4 => exact HC378_0.out); rintro e w23 ⟨v381, rfl, ho0, hb⟩; refine ⟨_, rfl, ?_⟩; have n0_ := A_ (Kd.N_elder' (Z22 HO_3.out) (Kd.R_base ho0) hb); have n1_ := A_ (Kd.V_elder' (Z31 HL378_0.out) (Kd.R_base ho0) hb); have n2_ := A_ (Kd.V_elder' (Z31 HL378_1.out) (Kd.R_base ho0) hb); have n3_ := A_ (Kd.R_lower ho0 (below_size Z1)); have n4_ := A_ (Kd.C_below (Z26 HR378_0.out) hb); have n5_ := A_ (Kd.C_below (Z26 HR378_1.out) hb); have n6_ := A_ (below_step Z1 hb); clear HO_3; clear HL378_0; clear HL378_1; clear HR378_0; clear HR378_1; clear HB; have HO_3 := n0_; have HL378_0 := n1_; have HL378_1 := n2_; have HO382 := n3_; have HR378_0 := n4_; have HR378_1 := n5_; have HB := n6_; clear n0_ n1_ n2_ n3_ n4_ n5_ n6_; (try clear hb); (try clear hb2); (try clear hk); (try clear hi); (try clear ho0)))
          go_ret
          exact ⟨Z17, Z1⟩
        ·rw [if_neg c14] at H
         exact absurd H (by simp)
       ·rw [if_neg c13] at H
        have c13b0 : decide (x7_2 < (t373.length : Int)) = false := decide_eq_false c13
        clear c13
        obtain rfl := Option.some.inj H
        go_wp2
        go_ret
        exact ⟨Z17, Z1⟩
def laws_FnStoreOk.Pure : Prop := ∀ (l0 : List Int), l0.length ≤ maxLen → l0.length * 1 ≤ 140737488351232 → (∀ x ∈ l0, (Lit.int .u8 x).wf = true) → ∃ k, laws_FnStoreOk.f k l0 = some true
theorem laws_FnStoreOk.walk (P : laws_FnStoreOk.Pure) (a0 : Option Addr) (len0 cap0 : Nat) (z0 : List Int) (w : World) (w0 : (a0 = none ∧ len0 = 0 ∧ cap0 = 0 ∧ z0 = []) ∨ ∃ x, a0 = some x ∧ len0 ≤ cap0 ∧ cap0 ≤ maxLen ∧ z0.length = cap0 ∧ (∀ i, i < z0.length → w.cell? (x.add i) = some (.int .u8 (z0.getD i 0))) ∧ ∀ n ∈ z0, (Lit.int .u8 n).wf = true) (y0 : len0 * 1 ≤ 140737488351232) :
  Calls Try.prog 5 #[.slice a0 len0 cap0] w fun e w' => e = .returned (.bool true) ∧ Below w.heap.size w w' := by
 obtain ⟨l0, rfl, hr0, hm0, hw0, hc0⟩ := ReadsInt.ofRowC w0
 obtain ⟨k, h⟩ := P l0 hm0 y0 hw0
 refine (laws_FnStoreOk.calls k _ _ l0 true w (Kd.C_of_reads (d := (0 : Int)) (h1 := fun _ => rfl) hr0) hc0 h).mono ?_
 rintro e w' ⟨rfl, hd⟩
 exact ⟨rfl, hd⟩
end Go.Proofs.Ytheifobeaemegaa.PFnStoreOk
