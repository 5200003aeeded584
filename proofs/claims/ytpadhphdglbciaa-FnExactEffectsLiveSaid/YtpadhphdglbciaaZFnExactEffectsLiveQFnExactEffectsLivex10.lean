/- Walks of the functions that the law 'FnExactEffectsLive' reaches, part 10: for each a Lean function and the proof that Go's comes to just its answer (lines of the print, under own names; no condition). -/
import Derived.Test.YtpadhphdglbciaaZFnExactEffectsLiveMFnExactEffectsLive
import Derived.Test.YtpadhphdglbciaaZFnExactEffectsLiveQFnExactEffectsLivex0
import Derived.Test.YtpadhphdglbciaaZFnExactEffectsLiveQFnExactEffectsLivex2
import Derived.Test.YtpadhphdglbciaaZFnExactEffectsLiveQFnExactEffectsLivex3
import Derived.Test.YtpadhphdglbciaaZFnExactEffectsLiveQFnExactEffectsLivex4
import Derived.Test.YtpadhphdglbciaaZFnExactEffectsLiveQFnExactEffectsLivex7
import Derived.Test.YtpadhphdglbciaaZFnExactEffectsLiveQFnExactEffectsLivex8
import Derived.Test.YtpadhphdglbciaaZFnExactEffectsLiveQFnExactEffectsLivex9
namespace Go.Proofs.Ytpadhphdglbciaa.PFnExactEffectsLive
open Go.RowKit Go.Proofs.YtpadhphdglbciaaW.PrintWords Go.Proofs.YtpadhphdglbciaaW.PrintLast Go.Proofs.YtpadhphdglbciaaW.PrintMore
attribute [local go_sem] max2_int min2_int max_two min_two max_three min_three max_four min_four
set_option linter.unusedVariables false
set_option linter.unusedSimpArgs false
mutual
def laws_FnExactEffectsLive.j0 : Nat → List (S72) → List (List (S92)) → Bool → List (S75) → List (List (S92)) → Bool → Bool → Option (Bool)
 | 0, _, _, _, _, _, _, _ => none
 | k + 1, x0, x4, x5, x6, x7, x8, x40 => if x40 = true then (some false) else ((laws_toEffectS.f k x0).bind fun t265 => ((laws_eqEffectS.f k x6 t265).bind fun t268 => (if t268 = true then ((laws_markEffectS.f k x6 1).bind fun bt269 => (if bt269.1 < 0 then (laws_FnExactEffectsLive.j1 k x0 x4 x5 x7 true) else ((laws_eqSlotSS.f k x7 x4).bind fun t271 => (if t271 = true then (laws_FnExactEffectsLive.j1 k x0 x4 x5 x7 (x8 != x5)) else (laws_FnExactEffectsLive.j1 k x0 x4 x5 x7 true))))) else (some false))))
def laws_FnExactEffectsLive.j1 : Nat → List (S72) → List (List (S92)) → Bool → List (List (S92)) → Bool → Option (Bool)
 | 0, _, _, _, _, _ => none
 | k + 1, x0, x4, x5, x7, x61 => if x61 = true then (some false) else ((laws_markSlotSS.f k x7 1).bind fun bt272 => ((laws_heldSlotSS.f k bt272.2 1).bind fun t274 => (if t274 < 0 then (some false) else (if t274 = bt272.1 then ((laws_toEffectS.f k x0).bind fun t275 => ((impl_EffectsLive.f k t275).bind fun bt278 => ((laws_eqSlotSS.f k bt278.1 x4).bind fun t282 => (if t282 = true then (laws_FnExactEffectsLive.j2 k bt272.2 bt272.1 (bt278.2 != x5)) else (laws_FnExactEffectsLive.j2 k bt272.2 bt272.1 true))))) else (some false)))))
def laws_FnExactEffectsLive.j2 : Nat → List (List (S92)) → Int → Bool → Option (Bool)
 | 0, _, _, _ => none
 | k + 1, x7, x10, x87 => if x87 = true then (some false) else ((laws_heldSlotSS.f k x7 1).bind fun t283 => (if t283 < 0 then (some false) else (if t283 = x10 then (some true) else (some false))))
end
def laws_FnExactEffectsLive.f (k : Nat) (l0 : List (S72)) : Option (Bool) := (laws_szEffectS.f k l0 1048576).bind fun t249 => (if t249 < 0 then (some true) else ((laws_toEffectS.f k l0).bind fun t250 => ((spec_EffectsLive.f k t250).bind fun bt253 => ((laws_toEffectS.f k l0).bind fun t257 => ((impl_EffectsLive.f k t257).bind fun bt260 => ((laws_eqSlotSS.f k bt260.1 bt253.1).bind fun t264 => (if t264 = true then (laws_FnExactEffectsLive.j0 k l0 bt253.1 bt253.2 t257 bt260.1 bt260.2 (bt260.2 != bt253.2)) else (laws_FnExactEffectsLive.j0 k l0 bt253.1 bt253.2 t257 bt260.1 bt260.2 true))))))))
theorem laws_FnExactEffectsLive.mono_l : ∀ k, (∀ y0 y1 y2 y3 y4 y5 y6, LeO (laws_FnExactEffectsLive.j0 k y0 y1 y2 y3 y4 y5 y6) (laws_FnExactEffectsLive.j0 (k + 1) y0 y1 y2 y3 y4 y5 y6)) ∧ (∀ y0 y1 y2 y3 y4, LeO (laws_FnExactEffectsLive.j1 k y0 y1 y2 y3 y4) (laws_FnExactEffectsLive.j1 (k + 1) y0 y1 y2 y3 y4)) ∧ (∀ y0 y1 y2, LeO (laws_FnExactEffectsLive.j2 k y0 y1 y2) (laws_FnExactEffectsLive.j2 (k + 1) y0 y1 y2))
 | 0 => ⟨fun _ _ _ _ _ _ _ r h => by simp [laws_FnExactEffectsLive.j0] at h, fun _ _ _ _ _ r h => by simp [laws_FnExactEffectsLive.j1] at h, fun _ _ _ r h => by simp [laws_FnExactEffectsLive.j2] at h⟩
 | k + 1 => by
  obtain ⟨ih0, ih1, ih2⟩ := laws_FnExactEffectsLive.mono_l k
  refine ⟨?_, ?_, ?_⟩
  ·intro y0 y1 y2 y3 y4 y5 y6
   unfold laws_FnExactEffectsLive.j0
   repeat' first
   | (with_reducible exact ih0 _ _ _ _ _ _ _)
   | (with_reducible exact ih1 _ _ _ _ _)
   | (with_reducible exact ih2 _ _ _)
   | (with_reducible exact impl_EffectsLive.mono _ _)
   | (with_reducible exact laws_eqEffectS.mono _ _ _)
   | (with_reducible exact laws_eqSlotSS.mono _ _ _)
   | (with_reducible exact laws_heldSlotSS.mono _ _ _)
   | (with_reducible exact laws_markEffectS.mono _ _ _)
   | (with_reducible exact laws_markSlotSS.mono _ _ _)
   | (with_reducible exact laws_szEffectS.mono _ _ _)
   | (with_reducible exact laws_toEffectS.mono _ _)
   | (with_reducible exact spec_EffectsLive.mono _ _)
   | (with_reducible exact LeO.refl _)
   | (with_reducible exact LeO.none _)
   | (with_reducible refine LeO.ite ?_ ?_)
   | (with_reducible refine LeO.bind ?_ (fun _ => ?_))
   | exact ih0 _ _ _ _ _ _ _
   | exact ih1 _ _ _ _ _
   | exact ih2 _ _ _
   | exact impl_EffectsLive.mono _ _
   | exact laws_eqEffectS.mono _ _ _
   | exact laws_eqSlotSS.mono _ _ _
   | exact laws_heldSlotSS.mono _ _ _
   | exact laws_markEffectS.mono _ _ _
   | exact laws_markSlotSS.mono _ _ _
   | exact laws_szEffectS.mono _ _ _
   | exact laws_toEffectS.mono _ _
   | exact spec_EffectsLive.mono _ _
   | exact LeO.none _
   | refine LeO.ite ?_ ?_
   | refine LeO.bind ?_ (fun _ => ?_)
  ·intro y0 y1 y2 y3 y4
   unfold laws_FnExactEffectsLive.j1
   repeat' first
   | (with_reducible exact ih0 _ _ _ _ _ _ _)
   | (with_reducible exact ih1 _ _ _ _ _)
   | (with_reducible exact ih2 _ _ _)
   | (with_reducible exact impl_EffectsLive.mono _ _)
   | (with_reducible exact laws_eqEffectS.mono _ _ _)
   | (with_reducible exact laws_eqSlotSS.mono _ _ _)
   | (with_reducible exact laws_heldSlotSS.mono _ _ _)
   | (with_reducible exact laws_markEffectS.mono _ _ _)
   | (with_reducible exact laws_markSlotSS.mono _ _ _)
   | (with_reducible exact laws_szEffectS.mono _ _ _)
   | (with_reducible exact laws_toEffectS.mono _ _)
   | (with_reducible exact spec_EffectsLive.mono _ _)
   | (with_reducible exact LeO.refl _)
   | (with_reducible exact LeO.none _)
   | (with_reducible refine LeO.ite ?_ ?_)
   | (with_reducible refine LeO.bind ?_ (fun _ => ?_))
   | exact ih0 _ _ _ _ _ _ _
   | exact ih1 _ _ _ _ _
   | exact ih2 _ _ _
   | exact impl_EffectsLive.mono _ _
   | exact laws_eqEffectS.mono _ _ _
   | exact laws_eqSlotSS.mono _ _ _
   | exact laws_heldSlotSS.mono _ _ _
   | exact laws_markEffectS.mono _ _ _
   | exact laws_markSlotSS.mono _ _ _
   | exact laws_szEffectS.mono _ _ _
   | exact laws_toEffectS.mono _ _
   | exact spec_EffectsLive.mono _ _
   | exact LeO.none _
   | refine LeO.ite ?_ ?_
   | refine LeO.bind ?_ (fun _ => ?_)
  ·intro y0 y1 y2
   unfold laws_FnExactEffectsLive.j2
   repeat' first
   | (with_reducible exact ih0 _ _ _ _ _ _ _)
   | (with_reducible exact ih1 _ _ _ _ _)
   | (with_reducible exact ih2 _ _ _)
   | (with_reducible exact impl_EffectsLive.mono _ _)
   | (with_reducible exact laws_eqEffectS.mono _ _ _)
   | (with_reducible exact laws_eqSlotSS.mono _ _ _)
   | (with_reducible exact laws_heldSlotSS.mono _ _ _)
   | (with_reducible exact laws_markEffectS.mono _ _ _)
   | (with_reducible exact laws_markSlotSS.mono _ _ _)
   | (with_reducible exact laws_szEffectS.mono _ _ _)
   | (with_reducible exact laws_toEffectS.mono _ _)
   | (with_reducible exact spec_EffectsLive.mono _ _)
   | (with_reducible exact LeO.refl _)
   | (with_reducible exact LeO.none _)
   | (with_reducible refine LeO.ite ?_ ?_)
   | (with_reducible refine LeO.bind ?_ (fun _ => ?_))
   | exact ih0 _ _ _ _ _ _ _
   | exact ih1 _ _ _ _ _
   | exact ih2 _ _ _
   | exact impl_EffectsLive.mono _ _
   | exact laws_eqEffectS.mono _ _ _
   | exact laws_eqSlotSS.mono _ _ _
   | exact laws_heldSlotSS.mono _ _ _
   | exact laws_markEffectS.mono _ _ _
   | exact laws_markSlotSS.mono _ _ _
   | exact laws_szEffectS.mono _ _ _
   | exact laws_toEffectS.mono _ _
   | exact spec_EffectsLive.mono _ _
   | exact LeO.none _
   | refine LeO.ite ?_ ?_
   | refine LeO.bind ?_ (fun _ => ?_)
theorem laws_FnExactEffectsLive.mono : ∀ a0 k, LeO (laws_FnExactEffectsLive.f k a0) (laws_FnExactEffectsLive.f (k + 1) a0) := by
 intro a0 k
 obtain ⟨ih0, ih1, ih2⟩ := laws_FnExactEffectsLive.mono_l k
 unfold laws_FnExactEffectsLive.f
 repeat' first
   | (with_reducible exact ih0 _ _ _ _ _ _ _)
   | (with_reducible exact ih1 _ _ _ _ _)
   | (with_reducible exact ih2 _ _ _)
   | (with_reducible exact impl_EffectsLive.mono _ _)
   | (with_reducible exact laws_eqEffectS.mono _ _ _)
   | (with_reducible exact laws_eqSlotSS.mono _ _ _)
   | (with_reducible exact laws_heldSlotSS.mono _ _ _)
   | (with_reducible exact laws_markEffectS.mono _ _ _)
   | (with_reducible exact laws_markSlotSS.mono _ _ _)
   | (with_reducible exact laws_szEffectS.mono _ _ _)
   | (with_reducible exact laws_toEffectS.mono _ _)
   | (with_reducible exact spec_EffectsLive.mono _ _)
   | (with_reducible exact LeO.refl _)
   | (with_reducible exact LeO.none _)
   | (with_reducible refine LeO.ite ?_ ?_)
   | (with_reducible refine LeO.bind ?_ (fun _ => ?_))
   | exact ih0 _ _ _ _ _ _ _
   | exact ih1 _ _ _ _ _
   | exact ih2 _ _ _
   | exact impl_EffectsLive.mono _ _
   | exact laws_eqEffectS.mono _ _ _
   | exact laws_eqSlotSS.mono _ _ _
   | exact laws_heldSlotSS.mono _ _ _
   | exact laws_markEffectS.mono _ _ _
   | exact laws_markSlotSS.mono _ _ _
   | exact laws_szEffectS.mono _ _ _
   | exact laws_toEffectS.mono _ _
   | exact spec_EffectsLive.mono _ _
   | exact LeO.none _
   | refine LeO.ite ?_ ?_
   | refine LeO.bind ?_ (fun _ => ?_)
set_option maxHeartbeats 8000000 in
set_option maxRecDepth 100000 in
theorem laws_FnExactEffectsLive.calls (k : Nat) (A0 : Option Addr) (c0 : Nat) (l0 : List (S72)) (r : Bool) (w : World) (hr0 : Kd.C k72 w A0 l0.length l0) (hc0 : l0.length ≤ c0) (h : laws_FnExactEffectsLive.f k l0 = some r) :
  Calls Try.prog 3 #[.slice A0 l0.length c0] w fun e w' => e = .returned (.bool r) ∧ Below w.heap.size w w' := by
 have HR0 := A_ hr0
 have HC0 := A_ hc0
 clear hr0 hc0
 have HB := A_ (Below.refl w.heap.size w)
 have HS := A_ (Nat.le_refl w.heap.size)
 have HE := A_ (Nat.le_refl w.heap.size)
 have H : ((laws_szEffectS.f k l0 1048576).bind fun t249 => (if t249 < 0 then (some true) else ((laws_toEffectS.f k l0).bind fun t250 => ((spec_EffectsLive.f k t250).bind fun bt253 => ((laws_toEffectS.f k l0).bind fun t257 => ((impl_EffectsLive.f k t257).bind fun bt260 => ((laws_eqSlotSS.f k bt260.1 bt253.1).bind fun t264 => (if t264 = true then (laws_FnExactEffectsLive.j0 k l0 bt253.1 bt253.2 t257 bt260.1 bt260.2 (bt260.2 != bt253.2)) else (laws_FnExactEffectsLive.j0 k l0 bt253.1 bt253.2 t257 bt260.1 bt260.2 true))))))))) = some r := h
 clear h
 replace H := Option.bind_eq_some_iff.mp H
 obtain ⟨t249, A20, H⟩ := H
 replace H : (if t249 < 0 then (some true) else ((laws_toEffectS.f k l0).bind fun t250 => ((spec_EffectsLive.f k t250).bind fun bt253 => ((laws_toEffectS.f k l0).bind fun t257 => ((impl_EffectsLive.f k t257).bind fun bt260 => ((laws_eqSlotSS.f k bt260.1 bt253.1).bind fun t264 => (if t264 = true then (laws_FnExactEffectsLive.j0 k l0 bt253.1 bt253.2 t257 bt260.1 bt260.2 (bt260.2 != bt253.2)) else (laws_FnExactEffectsLive.j0 k l0 bt253.1 bt253.2 t257 bt260.1 bt260.2 true)))))))) = some r := H
 have A2 := A_ A20
 clear A20
 by_cases c3 : t249 < 0
 ·rw [if_pos c3] at H
  have c3b0 : decide (t249 < 0) = true := decide_eq_true c3
  clear c3
  obtain rfl := Option.some.inj H
  go_enter Try.func3, Try.ntmps3
  go_wp2_with (first | ((with_reducible refine gate_callee (f := 9) rfl ?_); refine goesL_ (some 16) rfl rfl Try.func9 (by kernel_rfl) rfl #[.slice A0 l0.length c0, .int .i64 1048576] rfl Z8 ?_; (with_reducible refine (laws_szEffectS.calls k _ _ l0 1048576 t249 _ ?side1 ?side2 A2.out).mono ?_); (case side1 => exact Z24 HR0.out); (case side2 => exact HC0.out); rintro e w4 ⟨rfl, hb⟩; refine ⟨_, rfl, ?_⟩; have n0_ := A_ (below_step Z0 hb); have ne_ := A_ (sz_below Z15 hb); clear HE; have HE := ne_; clear ne_; clear HB; have HB := n0_; clear n0_; (try clear hb); (try clear hb2); (try clear hk); (try clear hi)))
  go_ret
  exact ⟨Z14, Z0⟩
 ·rw [if_neg c3] at H
  have c3b0 : decide (t249 < 0) = false := decide_eq_false c3
  clear c3
  replace H := Option.bind_eq_some_iff.mp H
  obtain ⟨t250, A50, H⟩ := H
  replace H : ((spec_EffectsLive.f k t250).bind fun bt253 => ((laws_toEffectS.f k l0).bind fun t257 => ((impl_EffectsLive.f k t257).bind fun bt260 => ((laws_eqSlotSS.f k bt260.1 bt253.1).bind fun t264 => (if t264 = true then (laws_FnExactEffectsLive.j0 k l0 bt253.1 bt253.2 t257 bt260.1 bt260.2 (bt260.2 != bt253.2)) else (laws_FnExactEffectsLive.j0 k l0 bt253.1 bt253.2 t257 bt260.1 bt260.2 true)))))) = some r := H
  have A5 := A_ A50
  clear A50
  replace H := Option.bind_eq_some_iff.mp H
  obtain ⟨⟨t253, t256⟩, A60, H⟩ := H
  replace H : ((laws_toEffectS.f k l0).bind fun t257 => ((impl_EffectsLive.f k t257).bind fun bt260 => ((laws_eqSlotSS.f k bt260.1 t253).bind fun t264 => (if t264 = true then (laws_FnExactEffectsLive.j0 k l0 t253 t256 t257 bt260.1 bt260.2 (bt260.2 != t256)) else (laws_FnExactEffectsLive.j0 k l0 t253 t256 t257 bt260.1 bt260.2 true))))) = some r := H
  have A6 := A_ A60
  clear A60
  replace H := Option.bind_eq_some_iff.mp H
  obtain ⟨t257, A70, H⟩ := H
  replace H : ((impl_EffectsLive.f k t257).bind fun bt260 => ((laws_eqSlotSS.f k bt260.1 t253).bind fun t264 => (if t264 = true then (laws_FnExactEffectsLive.j0 k l0 t253 t256 t257 bt260.1 bt260.2 (bt260.2 != t256)) else (laws_FnExactEffectsLive.j0 k l0 t253 t256 t257 bt260.1 bt260.2 true)))) = some r := H
  have A7 := A_ A70
  clear A70
  replace H := Option.bind_eq_some_iff.mp H
  obtain ⟨⟨t260, t263⟩, A80, H⟩ := H
  replace H : ((laws_eqSlotSS.f k t260 t253).bind fun t264 => (if t264 = true then (laws_FnExactEffectsLive.j0 k l0 t253 t256 t257 t260 t263 (t263 != t256)) else (laws_FnExactEffectsLive.j0 k l0 t253 t256 t257 t260 t263 true))) = some r := H
  have A8 := A_ A80
  clear A80
  have HC9 := A_ H
  clear H
  go_enter Try.func3, Try.ntmps3
  go_upto_region 8 with (first | ((with_reducible refine gate_callee (f := 9) rfl ?_); refine goesL_ (some 16) rfl rfl Try.func9 (by kernel_rfl) rfl #[.slice A0 l0.length c0, .int .i64 1048576] rfl Z8 ?_; (with_reducible refine (laws_szEffectS.calls k _ _ l0 1048576 t249 _ ?side1 ?side2 A2.out).mono ?_); (case side1 => exact Z24 HR0.out); (case side2 => exact HC0.out); rintro e w10 ⟨rfl, hb⟩; refine ⟨_, rfl, ?_⟩; have n0_ := A_ (below_step Z0 hb); have ne_ := A_ (sz_below Z15 hb); clear HE; have HE := ne_; clear ne_; clear HB; have HB := n0_; clear n0_; (try clear hb); (try clear hb2); (try clear hk); (try clear hi)) | ((with_reducible refine gate_callee (f := 11) rfl ?_); refine goesL_ (some 21) rfl rfl Try.func11 (by kernel_rfl) rfl #[.slice A0 l0.length c0] rfl Z8 ?_; (with_reducible refine (laws_toEffectS.calls k _ _ l0 t250 _ ?side1 ?side2 A5.out).mono ?_); (case side1 => exact Z13 HR0.out); (case side2 => exact HC0.out); rintro e w11 ⟨v251, rfl, ho0, hb⟩; refine ⟨_, rfl, ?_⟩; obtain ⟨wa252, wb252, nw_, ns1_, ns2_, ns3_⟩ := Kd.S_win ho0 (below_size Z0) Z15 hb.size; have n0_ := A_ (nw_); have nS_ := A_ (And.intro HS.out (And.intro ns1_ ns2_)); have ne_ := A_ (ns3_); clear nw_ ns1_ ns2_ ns3_; have n1_ := A_ (below_step Z0 hb); clear HS; have HS := nS_; clear nS_; clear HE; have HE := ne_; clear ne_; clear HB; have HO252 := n0_; have HB := n1_; clear n0_ n1_; (try clear hb); (try clear hb2); (try clear hk); (try clear hi); (try clear ho0); obtain ⟨Ao12, co12, eo12⟩ := Kd.S_slice HO252.out; subst eo12) | ((with_reducible refine gate_callee (f := 10) rfl ?_); refine goesL_ (some 22) rfl rfl Try.func10 (by kernel_rfl) rfl #[.slice Ao12 t250.length co12] rfl Z8 ?_; (with_reducible refine (spec_EffectsLive.calls k _ _ t250 t253 t256 _ ?side1 ?side2 A6.out).mono ?_); (case side1 => exact Z16 HO252.out); (case side2 => exact (Kd.S_reads' HO252.out).2.1); rintro e w13 ⟨v254, rfl, ho0, hb⟩; refine ⟨_, rfl, ?_⟩; obtain ⟨wa255, wb255, nw_, ns1_, ns2_, ns3_⟩ := Kd.N_win ho0 (below_size Z0) Z15 hb.size; have n1_ := A_ (nw_); have nS_ := A_ (And.intro HS.out (And.intro ns1_ ns2_)); have ne_ := A_ (ns3_); clear nw_ ns1_ ns2_ ns3_; have n0_ := A_ (Kd.S_below (Z10 HO252.out) hb); have n2_ := A_ (below_step Z0 hb); clear HS; have HS := nS_; clear nS_; clear HE; have HE := ne_; clear ne_; clear HO252; clear HB; have HO252 := n0_; have HO255 := n1_; have HB := n2_; clear n0_ n1_ n2_; (try clear hb); (try clear hb2); (try clear hk); (try clear hi); (try clear ho0)) | ((with_reducible refine gate_callee (f := 11) rfl ?_); refine goesL_ (some 26) rfl rfl Try.func11 (by kernel_rfl) rfl #[.slice A0 l0.length c0] rfl Z8 ?_; (with_reducible refine (laws_toEffectS.calls k _ _ l0 t257 _ ?side1 ?side2 A7.out).mono ?_); (case side1 => exact Z13 HR0.out); (case side2 => exact HC0.out); rintro e w14 ⟨v258, rfl, ho0, hb⟩; refine ⟨_, rfl, ?_⟩; obtain ⟨wa259, wb259, nw_, ns1_, ns2_, ns3_⟩ := Kd.S_win ho0 (below_size Z0) Z15 hb.size; have n2_ := A_ (nw_); have nS_ := A_ (And.intro HS.out (And.intro ns1_ ns2_)); have ne_ := A_ (ns3_); clear nw_ ns1_ ns2_ ns3_; have n0_ := A_ (Kd.S_below (Z10 HO252.out) hb); have n1_ := A_ (Kd.N_below (Z12 HO255.out) hb); have n3_ := A_ (below_step Z0 hb); clear HS; have HS := nS_; clear nS_; clear HE; have HE := ne_; clear ne_; clear HO252; clear HO255; clear HB; have HO252 := n0_; have HO255 := n1_; have HO259 := n2_; have HB := n3_; clear n0_ n1_ n2_ n3_; (try clear hb); (try clear hb2); (try clear hk); (try clear hi); (try clear ho0); obtain ⟨Ao15, co15, eo15⟩ := Kd.S_slice HO259.out; subst eo15) | ((with_reducible refine gate_callee (f := 12) rfl ?_); refine goesL_ (some 29) rfl rfl Try.func12 (by kernel_rfl) rfl #[.slice Ao15 t257.length co15] rfl Z8 ?_; (with_reducible refine (impl_EffectsLive.calls k _ _ t257 t260 t263 _ ?side1 ?side2 A8.out).mono ?_); (case side1 => exact Z16 HO259.out); (case side2 => exact (Kd.S_reads' HO259.out).2.1); rintro e w16 ⟨v261, rfl, ho0, hb⟩; refine ⟨_, rfl, ?_⟩; obtain ⟨wa262, wb262, nw_, ns1_, ns2_, ns3_⟩ := Kd.S_win ho0 (below_size Z0) Z15 hb.size; have n3_ := A_ (nw_); have nS_ := A_ (And.intro HS.out (And.intro ns1_ ns2_)); have ne_ := A_ (ns3_); clear nw_ ns1_ ns2_ ns3_; have n0_ := A_ (Kd.S_below (Z10 HO252.out) hb); have n1_ := A_ (Kd.N_below (Z12 HO255.out) hb); have n2_ := A_ (Kd.S_below (Z10 HO259.out) hb); have n4_ := A_ (below_step Z0 hb); clear HS; have HS := nS_; clear nS_; clear HE; have HE := ne_; clear ne_; clear HO252; clear HO255; clear HO259; clear HB; have HO252 := n0_; have HO255 := n1_; have HO259 := n2_; have HO262 := n3_; have HB := n4_; clear n0_ n1_ n2_ n3_ n4_; (try clear hb); (try clear hb2); (try clear hk); (try clear hi); (try clear ho0)))
  (try simp only [Act.put, List.setIfInBounds_toArray, List.set_cons_zero, List.set_cons_succ])
  go_cut [40] (fun v40 wc => ∃ (kq : Nat) (x40_8 : Bool) (wa_4 wb_4 wa_6 wb_6 wa_7 wb_7 : Nat), v40 = .bool x40_8 ∧ Aside0 (laws_FnExactEffectsLive.j0 kq l0 t253 t256 t257 t260 t263 x40_8 = some r) ∧ Aside0 (kq ≤ k) ∧ Aside0 (Kd.N (Kd.slice 92 k92) 43 wc w.heap.size (Win wa_4 wb_4) v254 t253) ∧ Aside0 (Kd.S k75 75 wc w.heap.size (Win wa_6 wb_6) (.slice Ao15 t257.length co15) t257) ∧ Aside0 (Kd.S (Kd.slice 92 k92) 43 wc w.heap.size (Win wa_7 wb_7) v261 t260) ∧ Aside0 (Below w.heap.size w wc) ∧ Aside0 (w.heap.size ≤ wa_4 ∧ wa_4 ≤ wb_4 ∧ wa_6 ≤ wb_6 ∧ wa_7 ≤ wb_7 ∧ wb_4 ≤ wa_6 ∧ wb_6 ≤ wa_7) ∧ Aside0 (wb_7 ≤ wc.heap.size))
  case first =>
   have H := HC9.out
   clear HC9
   replace H := Option.bind_eq_some_iff.mp H
   obtain ⟨t264, A170, H⟩ := H
   replace H : (if t264 = true then (laws_FnExactEffectsLive.j0 k l0 t253 t256 t257 t260 t263 (t263 != t256)) else (laws_FnExactEffectsLive.j0 k l0 t253 t256 t257 t260 t263 true)) = some r := H
   have A17 := A_ A170
   clear A170
   by_cases c18 : t264 = true
   ·subst c18
    have H1 : (laws_FnExactEffectsLive.j0 k l0 t253 t256 t257 t260 t263 (t263 != t256)) = some r := by rw [if_pos rfl] at H; exact H
    clear H
    have H := H1
    clear H1
    have H' := A_ H
    clear H
    obtain ⟨Ao19, co19, eo19⟩ := Kd.S_slice HO262.out
    subst eo19
    obtain ⟨Ao20, co20, eo20⟩ := Kd.N_slice HO255.out
    subst eo20
    go_wp2_with (first | ((with_reducible refine gate_callee (f := 13) rfl ?_); refine goesL_ (some 34) rfl rfl Try.func13 (by kernel_rfl) rfl #[.slice Ao19 t260.length co19, .slice Ao20 t253.length co20] rfl Z8 ?_; (with_reducible refine (laws_eqSlotSS.calls k _ _ t260 _ _ t253 true _ ?side1 ?side2 ?side3 ?side4 A17.out).mono ?_); (case side1 => exact Z16 HO262.out); (case side2 => exact (Kd.S_reads' HO262.out).2.1); (case side3 => exact Z26 HO255.out); (case side4 => exact (Kd.N_reads' HO255.out).2.1); rintro e w21 ⟨rfl, hb⟩; refine ⟨_, rfl, ?_⟩; have n0_ := A_ (Kd.S_below (Z10 HO252.out) hb); have n1_ := A_ (Kd.N_below (Z12 HO255.out) hb); have n2_ := A_ (Kd.S_below (Z10 HO259.out) hb); have n3_ := A_ (Kd.S_below (Z10 HO262.out) hb); have n4_ := A_ (below_step Z0 hb); have ne_ := A_ (sz_below Z15 hb); clear HE; have HE := ne_; clear ne_; clear HO252; clear HO255; clear HO259; clear HO262; clear HB; have HO252 := n0_; have HO255 := n1_; have HO259 := n2_; have HO262 := n3_; have HB := n4_; clear n0_ n1_ n2_ n3_ n4_; (try clear hb); (try clear hb2); (try clear hk); (try clear hi)))
    go_meet
    case rel => exact ⟨_, ((t263 != t256)), wa255, wb255, wa259, wb259, wa262, wb262, Z17, H', ⟨by first | omega | exact Nat.le_refl _⟩, ⟨Z12 HO255.out⟩, ⟨Z10 HO259.out⟩, ⟨Z10 HO262.out⟩, ⟨Z0⟩, ⟨by have hs_ := HS.out; omega⟩, ⟨by have hs_ := HS.out; refine Nat.le_trans ?_ Z15; omega⟩⟩
   ·replace c18 := Bool.eq_false_iff.mpr c18
    subst c18
    have H1 : (laws_FnExactEffectsLive.j0 k l0 t253 t256 t257 t260 t263 true) = some r := by rw [if_neg (show ¬ (false = true) by decide)] at H; exact H
    clear H
    have H := H1
    clear H1
    have H' := A_ H
    clear H
    obtain ⟨Ao22, co22, eo22⟩ := Kd.S_slice HO262.out
    subst eo22
    obtain ⟨Ao23, co23, eo23⟩ := Kd.N_slice HO255.out
    subst eo23
    go_wp2_with (first | ((with_reducible refine gate_callee (f := 13) rfl ?_); refine goesL_ (some 34) rfl rfl Try.func13 (by kernel_rfl) rfl #[.slice Ao22 t260.length co22, .slice Ao23 t253.length co23] rfl Z8 ?_; (with_reducible refine (laws_eqSlotSS.calls k _ _ t260 _ _ t253 false _ ?side1 ?side2 ?side3 ?side4 A17.out).mono ?_); (case side1 => exact Z16 HO262.out); (case side2 => exact (Kd.S_reads' HO262.out).2.1); (case side3 => exact Z26 HO255.out); (case side4 => exact (Kd.N_reads' HO255.out).2.1); rintro e w24 ⟨rfl, hb⟩; refine ⟨_, rfl, ?_⟩; have n0_ := A_ (Kd.S_below (Z10 HO252.out) hb); have n1_ := A_ (Kd.N_below (Z12 HO255.out) hb); have n2_ := A_ (Kd.S_below (Z10 HO259.out) hb); have n3_ := A_ (Kd.S_below (Z10 HO262.out) hb); have n4_ := A_ (below_step Z0 hb); have ne_ := A_ (sz_below Z15 hb); clear HE; have HE := ne_; clear ne_; clear HO252; clear HO255; clear HO259; clear HO262; clear HB; have HO252 := n0_; have HO255 := n1_; have HO259 := n2_; have HO262 := n3_; have HB := n4_; clear n0_ n1_ n2_ n3_ n4_; (try clear hb); (try clear hb2); (try clear hk); (try clear hi)))
    go_meet
    case rel => exact ⟨_, (true), wa255, wb255, wa259, wb259, wa262, wb262, Z17, H', ⟨by first | omega | exact Nat.le_refl _⟩, ⟨Z12 HO255.out⟩, ⟨Z10 HO259.out⟩, ⟨Z10 HO262.out⟩, ⟨Z0⟩, ⟨by have hs_ := HS.out; omega⟩, ⟨by have hs_ := HS.out; refine Nat.le_trans ?_ Z15; omega⟩⟩
  case rest =>
   clear HC9
   try clear c1
   try clear p2
   try clear c3
   try clear c3b0
   try clear c9
   try clear c10
   try clear c11
   try clear c12
   try clear c13
   try clear c18
   obtain ⟨kq, x40_8, wa_4, wb_4, wa_6, wb_6, wa_7, wb_7, rfl, HA, HJ8, HO_4, HO_6, HO_7, HB, HS, HE⟩ := hcut
   cases kq with
   | zero => exact absurd HA.out (by simp [laws_FnExactEffectsLive.j0])
   | succ kj8 =>
    have H := HA.out
    clear HA
    simp only [laws_FnExactEffectsLive.j0] at H
    by_cases c25 : x40_8 = true
    ·subst c25
     have H1 : (some false) = some r := by rw [if_pos rfl] at H; exact H
     clear H
     have H := H1
     clear H1
     obtain rfl := Option.some.inj H
     go_wp2
     go_ret
     exact ⟨Z14, Z0⟩
    ·replace c25 := Bool.eq_false_iff.mpr c25
     subst c25
     have H1 : ((laws_toEffectS.f kj8 l0).bind fun t265 => ((laws_eqEffectS.f kj8 t257 t265).bind fun t268 => (if t268 = true then ((laws_markEffectS.f kj8 t257 1).bind fun bt269 => (if bt269.1 < 0 then (laws_FnExactEffectsLive.j1 kj8 l0 t253 t256 t260 true) else ((laws_eqSlotSS.f kj8 t260 t253).bind fun t271 => (if t271 = true then (laws_FnExactEffectsLive.j1 kj8 l0 t253 t256 t260 (t263 != t256)) else (laws_FnExactEffectsLive.j1 kj8 l0 t253 t256 t260 true))))) else (some false)))) = some r := by rw [if_neg (show ¬ (false = true) by decide)] at H; exact H
     clear H
     have H := H1
     clear H1
     replace H := Option.bind_eq_some_iff.mp H
     obtain ⟨t265, A260, H⟩ := H
     replace H : ((laws_eqEffectS.f kj8 t257 t265).bind fun t268 => (if t268 = true then ((laws_markEffectS.f kj8 t257 1).bind fun bt269 => (if bt269.1 < 0 then (laws_FnExactEffectsLive.j1 kj8 l0 t253 t256 t260 true) else ((laws_eqSlotSS.f kj8 t260 t253).bind fun t271 => (if t271 = true then (laws_FnExactEffectsLive.j1 kj8 l0 t253 t256 t260 (t263 != t256)) else (laws_FnExactEffectsLive.j1 kj8 l0 t253 t256 t260 true))))) else (some false))) = some r := H
     have A26 := A_ A260
     clear A260
     replace H := Option.bind_eq_some_iff.mp H
     obtain ⟨t268, A270, H⟩ := H
     replace H : (if t268 = true then ((laws_markEffectS.f kj8 t257 1).bind fun bt269 => (if bt269.1 < 0 then (laws_FnExactEffectsLive.j1 kj8 l0 t253 t256 t260 true) else ((laws_eqSlotSS.f kj8 t260 t253).bind fun t271 => (if t271 = true then (laws_FnExactEffectsLive.j1 kj8 l0 t253 t256 t260 (t263 != t256)) else (laws_FnExactEffectsLive.j1 kj8 l0 t253 t256 t260 true))))) else (some false)) = some r := H
     have A27 := A_ A270
     clear A270
     by_cases c28 : t268 = true
     ·subst c28
      have H1 : ((laws_markEffectS.f kj8 t257 1).bind fun bt269 => (if bt269.1 < 0 then (laws_FnExactEffectsLive.j1 kj8 l0 t253 t256 t260 true) else ((laws_eqSlotSS.f kj8 t260 t253).bind fun t271 => (if t271 = true then (laws_FnExactEffectsLive.j1 kj8 l0 t253 t256 t260 (t263 != t256)) else (laws_FnExactEffectsLive.j1 kj8 l0 t253 t256 t260 true))))) = some r := by rw [if_pos rfl] at H; exact H
      clear H
      have H := H1
      clear H1
      replace H := Option.bind_eq_some_iff.mp H
      obtain ⟨⟨t269, t270⟩, A290, H⟩ := H
      replace H : (if t269 < 0 then (laws_FnExactEffectsLive.j1 kj8 l0 t253 t256 t260 true) else ((laws_eqSlotSS.f kj8 t260 t253).bind fun t271 => (if t271 = true then (laws_FnExactEffectsLive.j1 kj8 l0 t253 t256 t260 (t263 != t256)) else (laws_FnExactEffectsLive.j1 kj8 l0 t253 t256 t260 true)))) = some r := H
      have A29 := A_ A290
      clear A290
      have HC30 := A_ H
      clear H
      go_upto_region 14 with (first | ((with_reducible refine gate_callee (f := 11) rfl ?_); refine goesL_ (some 43) rfl rfl Try.func11 (by kernel_rfl) rfl #[.slice A0 l0.length c0] rfl Z8 ?_; (with_reducible refine (laws_toEffectS.calls kj8 _ _ l0 t265 _ ?side1 ?side2 A26.out).mono ?_); (case side1 => exact Z13 HR0.out); (case side2 => exact HC0.out); rintro e w31 ⟨v266, rfl, ho0, hb⟩; refine ⟨_, rfl, ?_⟩; obtain ⟨wa267, wb267, nw_, ns1_, ns2_, ns3_⟩ := Kd.S_win ho0 (below_size Z0) Z15 hb.size; have n3_ := A_ (nw_); have nS_ := A_ (And.intro HS.out (And.intro ns1_ ns2_)); have ne_ := A_ (ns3_); clear nw_ ns1_ ns2_ ns3_; have n0_ := A_ (Kd.N_below (Z12 HO_4.out) hb); have n1_ := A_ (Kd.S_below (Z10 HO_6.out) hb); have n2_ := A_ (Kd.S_below (Z10 HO_7.out) hb); have n4_ := A_ (below_step Z0 hb); clear HS; have HS := nS_; clear nS_; clear HE; have HE := ne_; clear ne_; clear HO_4; clear HO_6; clear HO_7; clear HB; have HO_4 := n0_; have HO_6 := n1_; have HO_7 := n2_; have HO267 := n3_; have HB := n4_; clear n0_ n1_ n2_ n3_ n4_; (try clear hb); (try clear hb2); (try clear hk); (try clear hi); (try clear ho0); obtain ⟨Ao32, co32, eo32⟩ := Kd.S_slice HO267.out; subst eo32) | ((with_reducible refine gate_callee (f := 14) rfl ?_); refine goesL_ (some 44) rfl rfl Try.func14 (by kernel_rfl) rfl #[.slice Ao15 t257.length co15, .slice Ao32 t265.length co32] rfl Z8 ?_; (with_reducible refine (laws_eqEffectS.calls kj8 _ _ t257 _ _ t265 true _ ?side1 ?side2 ?side3 ?side4 A27.out).mono ?_); (case side1 => exact Z16 HO_6.out); (case side2 => exact (Kd.S_reads' HO_6.out).2.1); (case side3 => exact Z16 HO267.out); (case side4 => exact (Kd.S_reads' HO267.out).2.1); rintro e w33 ⟨rfl, hb⟩; refine ⟨_, rfl, ?_⟩; have n0_ := A_ (Kd.N_below (Z12 HO_4.out) hb); have n1_ := A_ (Kd.S_below (Z10 HO_6.out) hb); have n2_ := A_ (Kd.S_below (Z10 HO_7.out) hb); have n3_ := A_ (Kd.S_below (Z10 HO267.out) hb); have n4_ := A_ (below_step Z0 hb); have ne_ := A_ (sz_below Z15 hb); clear HE; have HE := ne_; clear ne_; clear HO_4; clear HO_6; clear HO_7; clear HO267; clear HB; have HO_4 := n0_; have HO_6 := n1_; have HO_7 := n2_; have HO267 := n3_; have HB := n4_; clear n0_ n1_ n2_ n3_ n4_; (try clear hb); (try clear hb2); (try clear hk); (try clear hi)) | ((with_reducible refine gate_callee (f := 15) rfl ?_); refine goesL_ (some 48) rfl rfl Try.func15 (by kernel_rfl) rfl #[.slice Ao15 t257.length co15, .int .i64 1] rfl Z8 ?_; (with_reducible refine (laws_markEffectS.calls kj8 (Win wa_6 wb_6) (.slice Ao15 t257.length co15) t257 1 t269 t270 w _ ?side1 ?side2 A29.out).mono ?_); (case side1 => exact Z0); (case side2 => exact (Z10 HO_6.out)); rintro e w34 ⟨rfl, hy0, hb, hkp⟩; refine ⟨_, rfl, ?_⟩; have hs_ := HS.out; have n0_ := A_ (Kd.N_winK (Z12 HO_4.out) hkp (by omega)); have n1_ := A_ (hy0); have n2_ := A_ (Kd.S_winK (Z10 HO_7.out) hkp (by omega)); have n3_ := A_ (Kd.S_winK (Z10 HO267.out) hkp (by omega)); have n4_ := A_ (hb); have ne_ := A_ (sz_kept Z15 hkp); clear hs_; clear HE; have HE := ne_; clear ne_; clear HO_4; clear HO_6; clear HO_7; clear HO267; clear HB; have HO_4 := n0_; have HO_6 := n1_; have HO_7 := n2_; have HO267 := n3_; have HB := n4_; clear n0_ n1_ n2_ n3_ n4_; (try clear hb); (try clear hkp); (try clear hy0)))
      (try simp only [Act.put, List.setIfInBounds_toArray, List.set_cons_zero, List.set_cons_succ])
      go_cut [61] (fun v61 wc => ∃ (kq : Nat) (x61_29 : Bool) (wa_4 wb_4 wa_7 wb_7 : Nat), v61 = .bool x61_29 ∧ Aside0 (laws_FnExactEffectsLive.j1 kq l0 t253 t256 t260 x61_29 = some r) ∧ Aside0 (kq ≤ kj8) ∧ Aside0 (Kd.N (Kd.slice 92 k92) 43 wc w.heap.size (Win wa_4 wb_4) v254 t253) ∧ Aside0 (Kd.S (Kd.slice 92 k92) 43 wc w.heap.size (Win wa_7 wb_7) v261 t260) ∧ Aside0 (Below w.heap.size w wc) ∧ Aside0 (w.heap.size ≤ wa_4 ∧ wa_4 ≤ wb_4 ∧ wa_7 ≤ wb_7 ∧ wb_4 ≤ wa_7) ∧ Aside0 (wb_7 ≤ wc.heap.size))
      case first =>
       have H := HC30.out
       clear HC30
       by_cases c35 : t269 < 0
       ·rw [if_pos c35] at H
        have c35b0 : decide (t269 < 0) = true := decide_eq_true c35
        clear c35
        (first | rw [c35b0] | (simp only [i64_w, i32_w]; rw [c35b0]) | skip)
        have H' := A_ H
        clear H
        go_wp2
        go_meet
        case rel => exact ⟨_, (true), wa_4, wb_4, wa_7, wb_7, Z17, H', ⟨by have := HJ8.out; first | omega | exact Nat.le_refl _⟩, ⟨Z12 HO_4.out⟩, ⟨Z10 HO_7.out⟩, ⟨Z0⟩, ⟨by have hs_ := HS.out; omega⟩, ⟨by have hs_ := HS.out; refine Nat.le_trans ?_ Z15; omega⟩⟩
       ·rw [if_neg c35] at H
        have c35b0 : decide (t269 < 0) = false := decide_eq_false c35
        clear c35
        (first | rw [c35b0] | (simp only [i64_w, i32_w]; rw [c35b0]) | skip)
        replace H := Option.bind_eq_some_iff.mp H
        obtain ⟨t271, A360, H⟩ := H
        replace H : (if t271 = true then (laws_FnExactEffectsLive.j1 kj8 l0 t253 t256 t260 (t263 != t256)) else (laws_FnExactEffectsLive.j1 kj8 l0 t253 t256 t260 true)) = some r := H
        have A36 := A_ A360
        clear A360
        by_cases c37 : t271 = true
        ·subst c37
         have H1 : (laws_FnExactEffectsLive.j1 kj8 l0 t253 t256 t260 (t263 != t256)) = some r := by rw [if_pos rfl] at H; exact H
         clear H
         have H := H1
         clear H1
         have H' := A_ H
         clear H
         obtain ⟨Ao38, co38, eo38⟩ := Kd.S_slice HO_7.out
         subst eo38
         obtain ⟨Ao39, co39, eo39⟩ := Kd.N_slice HO_4.out
         subst eo39
         go_wp2_with (first | (go_at_call 13; (with_reducible refine (laws_eqSlotSS.calls kj8 _ _ t260 _ _ t253 true _ ?side1 ?side2 ?side3 ?side4 A36.out).mono ?_); (case side1 => exact Z16 HO_7.out); (case side2 => exact (Kd.S_reads' HO_7.out).2.1); (case side3 => exact Z26 HO_4.out); (case side4 => exact (Kd.N_reads' HO_4.out).2.1); rintro e w40 ⟨rfl, hb⟩; have n0_ := A_ (Kd.N_below (Z12 HO_4.out) hb); have n1_ := A_ (Kd.S_below (Z10 HO_6.out) hb); have n2_ := A_ (Kd.S_below (Z10 HO_7.out) hb); have n3_ := A_ (Kd.S_below (Z10 HO267.out) hb); have n4_ := A_ (below_step Z0 hb); have ne_ := A_ (sz_below Z15 hb); clear HE; have HE := ne_; clear ne_; clear HO_4; clear HO_6; clear HO_7; clear HO267; clear HB; have HO_4 := n0_; have HO_6 := n1_; have HO_7 := n2_; have HO267 := n3_; have HB := n4_; clear n0_ n1_ n2_ n3_ n4_; (try clear hb); (try clear hb2); (try clear hk); (try clear hi)))
         go_meet
         case rel => exact ⟨_, ((t263 != t256)), wa_4, wb_4, wa_7, wb_7, Z17, H', ⟨by have := HJ8.out; first | omega | exact Nat.le_refl _⟩, ⟨Z12 HO_4.out⟩, ⟨Z10 HO_7.out⟩, ⟨Z0⟩, ⟨by have hs_ := HS.out; omega⟩, ⟨by have hs_ := HS.out; refine Nat.le_trans ?_ Z15; omega⟩⟩
        ·replace c37 := Bool.eq_false_iff.mpr c37
         subst c37
         have H1 : (laws_FnExactEffectsLive.j1 kj8 l0 t253 t256 t260 true) = some r := by rw [if_neg (show ¬ (false = true) by decide)] at H; exact H
         clear H
         have H := H1
         clear H1
         have H' := A_ H
         clear H
         obtain ⟨Ao41, co41, eo41⟩ := Kd.S_slice HO_7.out
         subst eo41
         obtain ⟨Ao42, co42, eo42⟩ := Kd.N_slice HO_4.out
         subst eo42
         go_wp2_with (first | (go_at_call 13; (with_reducible refine (laws_eqSlotSS.calls kj8 _ _ t260 _ _ t253 false _ ?side1 ?side2 ?side3 ?side4 A36.out).mono ?_); (case side1 => exact Z16 HO_7.out); (case side2 => exact (Kd.S_reads' HO_7.out).2.1); (case side3 => exact Z26 HO_4.out); (case side4 => exact (Kd.N_reads' HO_4.out).2.1); rintro e w43 ⟨rfl, hb⟩; have n0_ := A_ (Kd.N_below (Z12 HO_4.out) hb); have n1_ := A_ (Kd.S_below (Z10 HO_6.out) hb); have n2_ := A_ (Kd.S_below (Z10 HO_7.out) hb); have n3_ := A_ (Kd.S_below (Z10 HO267.out) hb); have n4_ := A_ (below_step Z0 hb); have ne_ := A_ (sz_below Z15 hb); clear HE; have HE := ne_; clear ne_; clear HO_4; clear HO_6; clear HO_7; clear HO267; clear HB; have HO_4 := n0_; have HO_6 := n1_; have HO_7 := n2_; have HO267 := n3_; have HB := n4_; clear n0_ n1_ n2_ n3_ n4_; (try clear hb); (try clear hb2); (try clear hk); (try clear hi)))
         go_meet
         case rel => exact ⟨_, (true), wa_4, wb_4, wa_7, wb_7, Z17, H', ⟨by have := HJ8.out; first | omega | exact Nat.le_refl _⟩, ⟨Z12 HO_4.out⟩, ⟨Z10 HO_7.out⟩, ⟨Z0⟩, ⟨by have hs_ := HS.out; omega⟩, ⟨by have hs_ := HS.out; refine Nat.le_trans ?_ Z15; omega⟩⟩
      case rest =>
       clear HC30
       try clear c1
       try clear c2
       try clear p2
       try clear c3
       try clear c3b0
       try clear c9
       try clear c10
       try clear c11
       try clear c12
       try clear c13
       try clear c14
       try clear c15
       try clear c18
       try clear c25
       try clear c28
       try clear c35
       try clear c35b0
       try clear c37
       try clear p2
       obtain ⟨kq, x61_29, wa_4, wb_4, wa_7, wb_7, rfl, HA, HJ29, HO_4, HO_7, HB, HS, HE⟩ := hcut
       cases kq with
       | zero => exact absurd HA.out (by simp [laws_FnExactEffectsLive.j1])
       | succ kj29 =>
        have H := HA.out
        clear HA
        simp only [laws_FnExactEffectsLive.j1] at H
        by_cases c44 : x61_29 = true
        ·subst c44
         have H1 : (some false) = some r := by rw [if_pos rfl] at H; exact H
         clear H
         have H := H1
         clear H1
         obtain rfl := Option.some.inj H
         go_wp2
         go_ret
         exact ⟨Z14, Z0⟩
        ·replace c44 := Bool.eq_false_iff.mpr c44
         subst c44
         have H1 : ((laws_markSlotSS.f kj29 t260 1).bind fun bt272 => ((laws_heldSlotSS.f kj29 bt272.2 1).bind fun t274 => (if t274 < 0 then (some false) else (if t274 = bt272.1 then ((laws_toEffectS.f kj29 l0).bind fun t275 => ((impl_EffectsLive.f kj29 t275).bind fun bt278 => ((laws_eqSlotSS.f kj29 bt278.1 t253).bind fun t282 => (if t282 = true then (laws_FnExactEffectsLive.j2 kj29 bt272.2 bt272.1 (bt278.2 != t256)) else (laws_FnExactEffectsLive.j2 kj29 bt272.2 bt272.1 true))))) else (some false))))) = some r := by rw [if_neg (show ¬ (false = true) by decide)] at H; exact H
         clear H
         have H := H1
         clear H1
         replace H := Option.bind_eq_some_iff.mp H
         obtain ⟨⟨t272, t273⟩, A450, H⟩ := H
         replace H : ((laws_heldSlotSS.f kj29 t273 1).bind fun t274 => (if t274 < 0 then (some false) else (if t274 = t272 then ((laws_toEffectS.f kj29 l0).bind fun t275 => ((impl_EffectsLive.f kj29 t275).bind fun bt278 => ((laws_eqSlotSS.f kj29 bt278.1 t253).bind fun t282 => (if t282 = true then (laws_FnExactEffectsLive.j2 kj29 t273 t272 (bt278.2 != t256)) else (laws_FnExactEffectsLive.j2 kj29 t273 t272 true))))) else (some false)))) = some r := H
         have A45 := A_ A450
         clear A450
         replace H := Option.bind_eq_some_iff.mp H
         obtain ⟨t274, A460, H⟩ := H
         replace H : (if t274 < 0 then (some false) else (if t274 = t272 then ((laws_toEffectS.f kj29 l0).bind fun t275 => ((impl_EffectsLive.f kj29 t275).bind fun bt278 => ((laws_eqSlotSS.f kj29 bt278.1 t253).bind fun t282 => (if t282 = true then (laws_FnExactEffectsLive.j2 kj29 t273 t272 (bt278.2 != t256)) else (laws_FnExactEffectsLive.j2 kj29 t273 t272 true))))) else (some false))) = some r := H
         have A46 := A_ A460
         clear A460
         by_cases c47 : t274 < 0
         ·rw [if_pos c47] at H
          have c47b0 : decide (t274 < 0) = true := decide_eq_true c47
          clear c47
          obtain rfl := Option.some.inj H
          obtain ⟨Ao48, co48, eo48⟩ := Kd.S_slice HO_7.out
          subst eo48
          go_wp2_with (first | ((with_reducible refine gate_callee (f := 16) rfl ?_); refine goesL_ (some 64) rfl rfl Try.func16 (by kernel_rfl) rfl #[.slice Ao48 t260.length co48, .int .i64 1] rfl Z8 ?_; (with_reducible refine (laws_markSlotSS.calls kj29 (Win wa_7 wb_7) (.slice Ao48 t260.length co48) t260 1 t272 t273 w _ ?side1 ?side2 A45.out).mono ?_); (case side1 => exact Z0); (case side2 => exact (Z10 HO_7.out)); rintro e w49 ⟨rfl, hy0, hb, hkp⟩; refine ⟨_, rfl, ?_⟩; have hs_ := HS.out; have n0_ := A_ (Kd.N_winK (Z12 HO_4.out) hkp (by omega)); have n1_ := A_ (hy0); have n2_ := A_ (hb); have ne_ := A_ (sz_kept Z15 hkp); clear hs_; clear HE; have HE := ne_; clear ne_; clear HO_4; clear HO_7; clear HB; have HO_4 := n0_; have HO_7 := n1_; have HB := n2_; clear n0_ n1_ n2_; (try clear hb); (try clear hkp); (try clear hy0)) | ((with_reducible refine gate_callee (f := 17) rfl ?_); refine goesL_ (some 67) rfl rfl Try.func17 (by kernel_rfl) rfl #[.slice Ao48 t273.length co48, .int .i64 1] rfl (by (try simp only [List.map_toArray, List.map_cons, List.map_nil]); first | done | (rw [show t273.length = t260.length from (Kd.S_reads' HO_7.out).1.symm] <;> rfl) | rfl | (simp only [List.length_drop, List.length_take]; rfl)) ?_; (with_reducible refine (laws_heldSlotSS.calls kj29 _ _ t273 1 t274 _ ?side1 ?side2 A46.out).mono ?_); (case side1 => exact Z16 HO_7.out); (case side2 => rw [show t273.length = t260.length from (Kd.S_reads' HO_7.out).1.symm]; exact (Kd.S_reads' HO_7.out).2.1); rintro e w' ⟨rfl, ⟨nd, rfl⟩⟩; refine ⟨_, rfl, ?_⟩))
          go_ret
          exact ⟨Z14, Z0⟩
         ·rw [if_neg c47] at H
          have c47b0 : decide (t274 < 0) = false := decide_eq_false c47
          clear c47
          by_cases c50 : t274 = t272
          ·rw [if_pos c50] at H
           have c50b0 : (t274 == t272) = true := beq_iff_eq.mpr c50
           have c50b1 : (t274 != t272) = false := bne_eq_false_iff_eq.mpr c50
           clear c50
           replace H := Option.bind_eq_some_iff.mp H
           obtain ⟨t275, A510, H⟩ := H
           replace H : ((impl_EffectsLive.f kj29 t275).bind fun bt278 => ((laws_eqSlotSS.f kj29 bt278.1 t253).bind fun t282 => (if t282 = true then (laws_FnExactEffectsLive.j2 kj29 t273 t272 (bt278.2 != t256)) else (laws_FnExactEffectsLive.j2 kj29 t273 t272 true)))) = some r := H
           have A51 := A_ A510
           clear A510
           replace H := Option.bind_eq_some_iff.mp H
           obtain ⟨⟨t278, t281⟩, A520, H⟩ := H
           replace H : ((laws_eqSlotSS.f kj29 t278 t253).bind fun t282 => (if t282 = true then (laws_FnExactEffectsLive.j2 kj29 t273 t272 (t281 != t256)) else (laws_FnExactEffectsLive.j2 kj29 t273 t272 true))) = some r := H
           have A52 := A_ A520
           clear A520
           have HC53 := A_ H
           clear H
           obtain ⟨Ao54, co54, eo54⟩ := Kd.S_slice HO_7.out
           subst eo54
           go_upto_region 25 with (first | ((with_reducible refine gate_callee (f := 16) rfl ?_); refine goesL_ (some 64) rfl rfl Try.func16 (by kernel_rfl) rfl #[.slice Ao54 t260.length co54, .int .i64 1] rfl Z8 ?_; (with_reducible refine (laws_markSlotSS.calls kj29 (Win wa_7 wb_7) (.slice Ao54 t260.length co54) t260 1 t272 t273 w _ ?side1 ?side2 A45.out).mono ?_); (case side1 => exact Z0); (case side2 => exact (Z10 HO_7.out)); rintro e w55 ⟨rfl, hy0, hb, hkp⟩; refine ⟨_, rfl, ?_⟩; have hs_ := HS.out; have n0_ := A_ (Kd.N_winK (Z12 HO_4.out) hkp (by omega)); have n1_ := A_ (hy0); have n2_ := A_ (hb); have ne_ := A_ (sz_kept Z15 hkp); clear hs_; clear HE; have HE := ne_; clear ne_; clear HO_4; clear HO_7; clear HB; have HO_4 := n0_; have HO_7 := n1_; have HB := n2_; clear n0_ n1_ n2_; (try clear hb); (try clear hkp); (try clear hy0)) | ((with_reducible refine gate_callee (f := 17) rfl ?_); refine goesL_ (some 67) rfl rfl Try.func17 (by kernel_rfl) rfl #[.slice Ao54 t273.length co54, .int .i64 1] rfl (by (try simp only [List.map_toArray, List.map_cons, List.map_nil]); first | done | (rw [show t273.length = t260.length from (Kd.S_reads' HO_7.out).1.symm] <;> rfl) | rfl | (simp only [List.length_drop, List.length_take]; rfl)) ?_; (with_reducible refine (laws_heldSlotSS.calls kj29 _ _ t273 1 t274 _ ?side1 ?side2 A46.out).mono ?_); (case side1 => exact Z16 HO_7.out); (case side2 => rw [show t273.length = t260.length from (Kd.S_reads' HO_7.out).1.symm]; exact (Kd.S_reads' HO_7.out).2.1); rintro e w' ⟨rfl, ⟨nd, rfl⟩⟩; refine ⟨_, rfl, ?_⟩) | ((with_reducible refine gate_callee (f := 11) rfl ?_); refine goesL_ (some 75) rfl rfl Try.func11 (by kernel_rfl) rfl #[.slice A0 l0.length c0] rfl Z8 ?_; (with_reducible refine (laws_toEffectS.calls kj29 _ _ l0 t275 _ ?side1 ?side2 A51.out).mono ?_); (case side1 => repeat (first | exact (Kd.C_below HR0.out Z0) | (with_reducible refine Kd.C_alloc ?_ _) | (with_reducible refine Kd.C_drewN ?_ _) | (with_reducible refine Kd.C_drew ?_))); (case side2 => exact HC0.out); rintro e w56 ⟨v276, rfl, ho0, hb⟩; refine ⟨_, rfl, ?_⟩; obtain ⟨wa277, wb277, nw_, ns1_, ns2_, ns3_⟩ := Kd.S_win ho0 (below_size Z0) Z15 hb.size; have n2_ := A_ (nw_); have nS_ := A_ (And.intro HS.out (And.intro ns1_ ns2_)); have ne_ := A_ (ns3_); clear nw_ ns1_ ns2_ ns3_; have n0_ := A_ (Kd.N_below (Z12 HO_4.out) hb); have n1_ := A_ (Kd.S_below (Z10 HO_7.out) hb); have n3_ := A_ (below_step Z0 hb); clear HS; have HS := nS_; clear nS_; clear HE; have HE := ne_; clear ne_; clear HO_4; clear HO_7; clear HB; have HO_4 := n0_; have HO_7 := n1_; have HO277 := n2_; have HB := n3_; clear n0_ n1_ n2_ n3_; (try clear hb); (try clear hb2); (try clear hk); (try clear hi); (try clear ho0); obtain ⟨Ao57, co57, eo57⟩ := Kd.S_slice HO277.out; subst eo57) | ((with_reducible refine gate_callee (f := 12) rfl ?_); refine goesL_ (some 76) rfl rfl Try.func12 (by kernel_rfl) rfl #[.slice Ao57 t275.length co57] rfl Z8 ?_; (with_reducible refine (impl_EffectsLive.calls kj29 _ _ t275 t278 t281 _ ?side1 ?side2 A52.out).mono ?_); (case side1 => exact Z16 HO277.out); (case side2 => exact (Kd.S_reads' HO277.out).2.1); rintro e w58 ⟨v279, rfl, ho0, hb⟩; refine ⟨_, rfl, ?_⟩; obtain ⟨wa280, wb280, nw_, ns1_, ns2_, ns3_⟩ := Kd.S_win ho0 (below_size Z0) Z15 hb.size; have n3_ := A_ (nw_); have nS_ := A_ (And.intro HS.out (And.intro ns1_ ns2_)); have ne_ := A_ (ns3_); clear nw_ ns1_ ns2_ ns3_; have n0_ := A_ (Kd.N_below (Z12 HO_4.out) hb); have n1_ := A_ (Kd.S_below (Z10 HO_7.out) hb); have n2_ := A_ (Kd.S_below (Z10 HO277.out) hb); have n4_ := A_ (below_step Z0 hb); clear HS; have HS := nS_; clear nS_; clear HE; have HE := ne_; clear ne_; clear HO_4; clear HO_7; clear HO277; clear HB; have HO_4 := n0_; have HO_7 := n1_; have HO277 := n2_; have HO280 := n3_; have HB := n4_; clear n0_ n1_ n2_ n3_ n4_; (try clear hb); (try clear hb2); (try clear hk); (try clear hi); (try clear ho0)))
           (try simp only [Act.put, List.setIfInBounds_toArray, List.set_cons_zero, List.set_cons_succ])
           go_cut [87] (fun v87 wc => ∃ (kq : Nat) (x87_52 : Bool) (wa_7 wb_7 : Nat), v87 = .bool x87_52 ∧ Aside0 (laws_FnExactEffectsLive.j2 kq t273 t272 x87_52 = some r) ∧ Aside0 (kq ≤ kj29) ∧ Aside0 (Kd.S (Kd.slice 92 k92) 43 wc w.heap.size (Win wa_7 wb_7) (.slice Ao54 t260.length co54) t273) ∧ Aside0 (Below w.heap.size w wc) ∧ Aside0 (w.heap.size ≤ wa_7 ∧ wa_7 ≤ wb_7) ∧ Aside0 (wb_7 ≤ wc.heap.size))
           case first =>
            have H := HC53.out
            clear HC53
            replace H := Option.bind_eq_some_iff.mp H
            obtain ⟨t282, A590, H⟩ := H
            replace H : (if t282 = true then (laws_FnExactEffectsLive.j2 kj29 t273 t272 (t281 != t256)) else (laws_FnExactEffectsLive.j2 kj29 t273 t272 true)) = some r := H
            have A59 := A_ A590
            clear A590
            by_cases c60 : t282 = true
            ·subst c60
             have H1 : (laws_FnExactEffectsLive.j2 kj29 t273 t272 (t281 != t256)) = some r := by rw [if_pos rfl] at H; exact H
             clear H
             have H := H1
             clear H1
             have H' := A_ H
             clear H
             obtain ⟨Ao61, co61, eo61⟩ := Kd.S_slice HO280.out
             subst eo61
             obtain ⟨Ao62, co62, eo62⟩ := Kd.N_slice HO_4.out
             subst eo62
             go_wp2_with (first | ((with_reducible refine gate_callee (f := 13) rfl ?_); refine goesL_ (some 81) rfl rfl Try.func13 (by kernel_rfl) rfl #[.slice Ao61 t278.length co61, .slice Ao62 t253.length co62] rfl Z8 ?_; (with_reducible refine (laws_eqSlotSS.calls kj29 _ _ t278 _ _ t253 true _ ?side1 ?side2 ?side3 ?side4 A59.out).mono ?_); (case side1 => exact Z16 HO280.out); (case side2 => exact (Kd.S_reads' HO280.out).2.1); (case side3 => exact Z26 HO_4.out); (case side4 => exact (Kd.N_reads' HO_4.out).2.1); rintro e w63 ⟨rfl, hb⟩; refine ⟨_, rfl, ?_⟩; have n0_ := A_ (Kd.N_below (Z12 HO_4.out) hb); have n1_ := A_ (Kd.S_below (Z10 HO_7.out) hb); have n2_ := A_ (Kd.S_below (Z10 HO277.out) hb); have n3_ := A_ (Kd.S_below (Z10 HO280.out) hb); have n4_ := A_ (below_step Z0 hb); have ne_ := A_ (sz_below Z15 hb); clear HE; have HE := ne_; clear ne_; clear HO_4; clear HO_7; clear HO277; clear HO280; clear HB; have HO_4 := n0_; have HO_7 := n1_; have HO277 := n2_; have HO280 := n3_; have HB := n4_; clear n0_ n1_ n2_ n3_ n4_; (try clear hb); (try clear hb2); (try clear hk); (try clear hi)))
             go_meet
             case rel => exact ⟨_, ((t281 != t256)), wa_7, wb_7, Z17, H', ⟨by have := HJ8.out; have := HJ29.out; first | omega | exact Nat.le_refl _⟩, ⟨Z10 HO_7.out⟩, ⟨Z0⟩, ⟨by have hs_ := HS.out; omega⟩, ⟨by have hs_ := HS.out; refine Nat.le_trans ?_ Z15; omega⟩⟩
            ·replace c60 := Bool.eq_false_iff.mpr c60
             subst c60
             have H1 : (laws_FnExactEffectsLive.j2 kj29 t273 t272 true) = some r := by rw [if_neg (show ¬ (false = true) by decide)] at H; exact H
             clear H
             have H := H1
             clear H1
             have H' := A_ H
             clear H
             obtain ⟨Ao64, co64, eo64⟩ := Kd.S_slice HO280.out
             subst eo64
             obtain ⟨Ao65, co65, eo65⟩ := Kd.N_slice HO_4.out
             subst eo65
             go_wp2_with (first | ((with_reducible refine gate_callee (f := 13) rfl ?_); refine goesL_ (some 81) rfl rfl Try.func13 (by kernel_rfl) rfl #[.slice Ao64 t278.length co64, .slice Ao65 t253.length co65] rfl Z8 ?_; (with_reducible refine (laws_eqSlotSS.calls kj29 _ _ t278 _ _ t253 false _ ?side1 ?side2 ?side3 ?side4 A59.out).mono ?_); (case side1 => exact Z16 HO280.out); (case side2 => exact (Kd.S_reads' HO280.out).2.1); (case side3 => exact Z26 HO_4.out); (case side4 => exact (Kd.N_reads' HO_4.out).2.1); rintro e w66 ⟨rfl, hb⟩; refine ⟨_, rfl, ?_⟩; have n0_ := A_ (Kd.N_below (Z12 HO_4.out) hb); have n1_ := A_ (Kd.S_below (Z10 HO_7.out) hb); have n2_ := A_ (Kd.S_below (Z10 HO277.out) hb); have n3_ := A_ (Kd.S_below (Z10 HO280.out) hb); have n4_ := A_ (below_step Z0 hb); have ne_ := A_ (sz_below Z15 hb); clear HE; have HE := ne_; clear ne_; clear HO_4; clear HO_7; clear HO277; clear HO280; clear HB; have HO_4 := n0_; have HO_7 := n1_; have HO277 := n2_; have HO280 := n3_; have HB := n4_; clear n0_ n1_ n2_ n3_ n4_; (try clear hb); (try clear hb2); (try clear hk); (try clear hi)))
             go_meet
             case rel => exact ⟨_, (true), wa_7, wb_7, Z17, H', ⟨by have := HJ8.out; have := HJ29.out; first | omega | exact Nat.le_refl _⟩, ⟨Z10 HO_7.out⟩, ⟨Z0⟩, ⟨by have hs_ := HS.out; omega⟩, ⟨by have hs_ := HS.out; refine Nat.le_trans ?_ Z15; omega⟩⟩
           case rest =>
            clear HC53
            try clear c1
            try clear c2
            try clear p2
            try clear c3
            try clear c3b0
            try clear c4
            try clear c5
            try clear c6
            try clear c9
            try clear c10
            try clear c11
            try clear c12
            try clear c13
            try clear c14
            try clear c15
            try clear c16
            try clear c17
            try clear c18
            try clear c25
            try clear c28
            try clear c35
            try clear c35b0
            try clear c37
            try clear c44
            try clear c47
            try clear c47b0
            try clear c50
            try clear c50b0
            try clear c50b1
            try clear c60
            try clear p2
            obtain ⟨kq, x87_52, wa_7, wb_7, rfl, HA, HJ52, HO_7, HB, HS, HE⟩ := hcut
            have hl7_52 := (Kd.S_reads' HO_7.out).1
            rw [hl7_52] at HO_7
            (try simp only [hl7_52])
            cases kq with
            | zero => exact absurd HA.out (by simp [laws_FnExactEffectsLive.j2])
            | succ kj52 =>
             have H := HA.out
             clear HA
             simp only [laws_FnExactEffectsLive.j2] at H
             by_cases c67 : x87_52 = true
             ·subst c67
              have H1 : (some false) = some r := by rw [if_pos rfl] at H; exact H
              clear H
              have H := H1
              clear H1
              obtain rfl := Option.some.inj H
              go_wp2
              go_ret
              exact ⟨Z14, Z0⟩
             ·replace c67 := Bool.eq_false_iff.mpr c67
              subst c67
              have H1 : ((laws_heldSlotSS.f kj52 t273 1).bind fun t283 => (if t283 < 0 then (some false) else (if t283 = t272 then (some true) else (some false)))) = some r := by rw [if_neg (show ¬ (false = true) by decide)] at H; exact H
              clear H
              have H := H1
              clear H1
              replace H := Option.bind_eq_some_iff.mp H
              obtain ⟨t283, A680, H⟩ := H
              replace H : (if t283 < 0 then (some false) else (if t283 = t272 then (some true) else (some false))) = some r := H
              have A68 := A_ A680
              clear A680
              by_cases c69 : t283 < 0
              ·rw [if_pos c69] at H
               have c69b0 : decide (t283 < 0) = true := decide_eq_true c69
               clear c69
               obtain rfl := Option.some.inj H
               go_wp2_with (first | ((with_reducible refine gate_callee (f := 17) rfl ?_); refine goesL_ (some 90) rfl rfl Try.func17 (by kernel_rfl) rfl #[.slice Ao54 t273.length co54, .int .i64 1] rfl Z8 ?_; (with_reducible refine (laws_heldSlotSS.calls kj52 _ _ t273 1 t283 _ ?side1 ?side2 A68.out).mono ?_); (case side1 => exact Z16 HO_7.out); (case side2 => exact (Kd.S_reads' HO_7.out).2.1); rintro e w' ⟨rfl, ⟨nd, rfl⟩⟩; refine ⟨_, rfl, ?_⟩))
               go_ret
               exact ⟨Z14, Z0⟩
              ·rw [if_neg c69] at H
               have c69b0 : decide (t283 < 0) = false := decide_eq_false c69
               clear c69
               by_cases c70 : t283 = t272
               ·rw [if_pos c70] at H
                have c70b0 : (t283 == t272) = true := beq_iff_eq.mpr c70
                have c70b1 : (t283 != t272) = false := bne_eq_false_iff_eq.mpr c70
                clear c70
                obtain rfl := Option.some.inj H
                go_wp2_with (first | ((with_reducible refine gate_callee (f := 17) rfl ?_); refine goesL_ (some 90) rfl rfl Try.func17 (by kernel_rfl) rfl #[.slice Ao54 t273.length co54, .int .i64 1] rfl Z8 ?_; (with_reducible refine (laws_heldSlotSS.calls kj52 _ _ t273 1 t283 _ ?side1 ?side2 A68.out).mono ?_); (case side1 => exact Z16 HO_7.out); (case side2 => exact (Kd.S_reads' HO_7.out).2.1); rintro e w' ⟨rfl, ⟨nd, rfl⟩⟩; refine ⟨_, rfl, ?_⟩))
                go_ret
                exact ⟨Z14, Z0⟩
               ·rw [if_neg c70] at H
                have c70b0 : (t283 == t272) = false := beq_eq_false_iff_ne.mpr c70
                have c70b1 : (t283 != t272) = true := bne_iff_ne.mpr c70
                obtain rfl := Option.some.inj H
                go_wp2_with (first | ((with_reducible refine gate_callee (f := 17) rfl ?_); refine goesL_ (some 90) rfl rfl Try.func17 (by kernel_rfl) rfl #[.slice Ao54 t273.length co54, .int .i64 1] rfl Z8 ?_; (with_reducible refine (laws_heldSlotSS.calls kj52 _ _ t273 1 t283 _ ?side1 ?side2 A68.out).mono ?_); (case side1 => exact Z16 HO_7.out); (case side2 => exact (Kd.S_reads' HO_7.out).2.1); rintro e w' ⟨rfl, ⟨nd, rfl⟩⟩; refine ⟨_, rfl, ?_⟩))
                go_ret
                exact ⟨Z14, Z0⟩
          ·rw [if_neg c50] at H
           have c50b0 : (t274 == t272) = false := beq_eq_false_iff_ne.mpr c50
           have c50b1 : (t274 != t272) = true := bne_iff_ne.mpr c50
           obtain rfl := Option.some.inj H
           obtain ⟨Ao71, co71, eo71⟩ := Kd.S_slice HO_7.out
           subst eo71
           go_wp2_with (first | ((with_reducible refine gate_callee (f := 16) rfl ?_); refine goesL_ (some 64) rfl rfl Try.func16 (by kernel_rfl) rfl #[.slice Ao71 t260.length co71, .int .i64 1] rfl Z8 ?_; (with_reducible refine (laws_markSlotSS.calls kj29 (Win wa_7 wb_7) (.slice Ao71 t260.length co71) t260 1 t272 t273 w _ ?side1 ?side2 A45.out).mono ?_); (case side1 => exact Z0); (case side2 => exact (Z10 HO_7.out)); rintro e w72 ⟨rfl, hy0, hb, hkp⟩; refine ⟨_, rfl, ?_⟩; have hs_ := HS.out; have n0_ := A_ (Kd.N_winK (Z12 HO_4.out) hkp (by omega)); have n1_ := A_ (hy0); have n2_ := A_ (hb); have ne_ := A_ (sz_kept Z15 hkp); clear hs_; clear HE; have HE := ne_; clear ne_; clear HO_4; clear HO_7; clear HB; have HO_4 := n0_; have HO_7 := n1_; have HB := n2_; clear n0_ n1_ n2_; (try clear hb); (try clear hkp); (try clear hy0)) | ((with_reducible refine gate_callee (f := 17) rfl ?_); refine goesL_ (some 67) rfl rfl Try.func17 (by kernel_rfl) rfl #[.slice Ao71 t273.length co71, .int .i64 1] rfl (by (try simp only [List.map_toArray, List.map_cons, List.map_nil]); first | done | (rw [show t273.length = t260.length from (Kd.S_reads' HO_7.out).1.symm] <;> rfl) | rfl | (simp only [List.length_drop, List.length_take]; rfl)) ?_; (with_reducible refine (laws_heldSlotSS.calls kj29 _ _ t273 1 t274 _ ?side1 ?side2 A46.out).mono ?_); (case side1 => exact Z16 HO_7.out); (case side2 => rw [show t273.length = t260.length from (Kd.S_reads' HO_7.out).1.symm]; exact (Kd.S_reads' HO_7.out).2.1); rintro e w' ⟨rfl, ⟨nd, rfl⟩⟩; refine ⟨_, rfl, ?_⟩))
           go_ret
           exact ⟨Z14, Z0⟩
     ·replace c28 := Bool.eq_false_iff.mpr c28
      subst c28
      have H1 : (some false) = some r := by rw [if_neg (show ¬ (false = true) by decide)] at H; exact H
      clear H
      have H := H1
      clear H1
      obtain rfl := Option.some.inj H
      go_wp2_with (first | ((with_reducible refine gate_callee (f := 11) rfl ?_); refine goesL_ (some 43) rfl rfl Try.func11 (by kernel_rfl) rfl #[.slice A0 l0.length c0] rfl Z8 ?_; (with_reducible refine (laws_toEffectS.calls kj8 _ _ l0 t265 _ ?side1 ?side2 A26.out).mono ?_); (case side1 => exact Z13 HR0.out); (case side2 => exact HC0.out); rintro e w73 ⟨v266, rfl, ho0, hb⟩; refine ⟨_, rfl, ?_⟩; obtain ⟨wa267, wb267, nw_, ns1_, ns2_, ns3_⟩ := Kd.S_win ho0 (below_size Z0) Z15 hb.size; have n3_ := A_ (nw_); have nS_ := A_ (And.intro HS.out (And.intro ns1_ ns2_)); have ne_ := A_ (ns3_); clear nw_ ns1_ ns2_ ns3_; have n0_ := A_ (Kd.N_below (Z12 HO_4.out) hb); have n1_ := A_ (Kd.S_below (Z10 HO_6.out) hb); have n2_ := A_ (Kd.S_below (Z10 HO_7.out) hb); have n4_ := A_ (below_step Z0 hb); clear HS; have HS := nS_; clear nS_; clear HE; have HE := ne_; clear ne_; clear HO_4; clear HO_6; clear HO_7; clear HB; have HO_4 := n0_; have HO_6 := n1_; have HO_7 := n2_; have HO267 := n3_; have HB := n4_; clear n0_ n1_ n2_ n3_ n4_; (try clear hb); (try clear hb2); (try clear hk); (try clear hi); (try clear ho0); obtain ⟨Ao74, co74, eo74⟩ := Kd.S_slice HO267.out; subst eo74) | ((with_reducible refine gate_callee (f := 14) rfl ?_); refine goesL_ (some 44) rfl rfl Try.func14 (by kernel_rfl) rfl #[.slice Ao15 t257.length co15, .slice Ao74 t265.length co74] rfl Z8 ?_; (with_reducible refine (laws_eqEffectS.calls kj8 _ _ t257 _ _ t265 false _ ?side1 ?side2 ?side3 ?side4 A27.out).mono ?_); (case side1 => exact Z16 HO_6.out); (case side2 => exact (Kd.S_reads' HO_6.out).2.1); (case side3 => exact Z16 HO267.out); (case side4 => exact (Kd.S_reads' HO267.out).2.1); rintro e w75 ⟨rfl, hb⟩; refine ⟨_, rfl, ?_⟩; have n0_ := A_ (Kd.N_below (Z12 HO_4.out) hb); have n1_ := A_ (Kd.S_below (Z10 HO_6.out) hb); have n2_ := A_ (Kd.S_below (Z10 HO_7.out) hb); have n3_ := A_ (Kd.S_below (Z10 HO267.out) hb); have n4_ := A_ (below_step Z0 hb); have ne_ := A_ (sz_below Z15 hb); clear HE; have HE := ne_; clear ne_; clear HO_4; clear HO_6; clear HO_7; clear HO267; clear HB; have HO_4 := n0_; have HO_6 := n1_; have HO_7 := n2_; have HO267 := n3_; have HB := n4_; clear n0_ n1_ n2_ n3_ n4_; (try clear hb); (try clear hb2); (try clear hk); (try clear hi)))
      go_ret
      exact ⟨Z14, Z0⟩
end Go.Proofs.Ytpadhphdglbciaa.PFnExactEffectsLive
