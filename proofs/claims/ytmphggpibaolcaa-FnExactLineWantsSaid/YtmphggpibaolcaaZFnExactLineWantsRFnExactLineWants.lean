/- The law 'FnExactLineWants': for every input it returns true and leaves its arguments as they were (the row, out of the pure statement; no condition). -/
import Derived.Test.YtmphggpibaolcaaRows
import Derived.Test.YtmphggpibaolcaaZFnExactLineWantsQFnExactLineWantsx18
import Derived.Test.YtmphggpibaolcaaZFnExactLineWantsPureFnExactLineWants
import Derived.Test.YtmphggpibaolcaaZFnExactLineWantsOpen
import Derived.WalkKit
import Derived.ProofKit
import Derived.OpenShut
import Derived.ShutString
import Derived.ChangeOld
import Derived.Below
import Derived.SizedLaws
import Derived.Test.YtmphggpibaolcaaZFnExactLineWantsWSized
namespace Go.Proofs.Ytmphggpibaolcaa.fnExactLineWants
open Go.ChangeShapes Go.WideShapes Go.ChangeAt Go.RowKit Go.Proofs.YtmphggpibaolcaaW.PrintWords Go.Proofs.Ytmphggpibaolcaa.Opens Go.Proofs.Ytmphggpibaolcaa.PFnExactLineWants Go.Proofs.Ytmphggpibaolcaa.Pure
set_option linter.unusedVariables false
theorem own : ownKnob Try.prog.godebug = none := by kernel_rfl
theorem laidOut : laidOutB Try.prog = true := by kernel_rfl
set_option maxRecDepth 100000 in
theorem op123 {H : Type} (enc : TypeId × Value → H) (w : World) : Opn enc Try.prog w 0 (fun _ => true) true 123 k123 G123 := op_iso (fun x : S123 => (x.f0, x.f1)) (fun x => ⟨x.1, x.2⟩) (fun _ => rfl) (op_struct Try.underlying123 (by kernel_rfl) (opf_cons rfl (by kernel_rfl) (op_int Try.underlying3) (opf_one rfl (by kernel_rfl) (op_int Try.underlying3))))
set_option maxRecDepth 100000 in
theorem op115 {H : Type} (enc : TypeId × Value → H) (w : World) : Opn enc Try.prog w 0 (fun _ => true) true 115 k115 G115 := op_iso (fun x : S115 => (x.f0, x.f1, x.f2)) (fun x => ⟨x.1, x.2.1, x.2.2⟩) (fun _ => rfl) (op_struct Try.underlying115 (by kernel_rfl) (opf_cons rfl (by kernel_rfl) (op_int Try.underlying3) (opf_cons rfl (by kernel_rfl) (op_int Try.underlying3) (opf_one rfl (by kernel_rfl) (op_string Try.underlying9)))))
set_option maxRecDepth 100000 in
theorem op86 {H : Type} (enc : TypeId × Value → H) (w : World) : Opn enc Try.prog w 0 (fun _ => true) true 86 k86 G86 := op_iso (fun x : S86 => (x.f0, x.f1)) (fun x => ⟨x.1, x.2⟩) (fun _ => rfl) (op_struct Try.underlying86 (by kernel_rfl) (opf_cons rfl (by kernel_rfl) (op_slice 123 Try.underlying42 (by kernel_rfl) (op123 enc w)) (opf_one rfl (by kernel_rfl) (op_slice 115 Try.underlying84 (by kernel_rfl) (op115 enc w)))))
set_option maxRecDepth 100000 in
theorem op117 {H : Type} (enc : TypeId × Value → H) (w : World) : Opn enc Try.prog w 0 (fun _ => true) true 117 k117 G117 := op_iso (fun x : S117 => (x.f0, x.f1, x.f2)) (fun x => ⟨x.1, x.2.1, x.2.2⟩) (fun _ => rfl) (op_struct Try.underlying117 (by kernel_rfl) (opf_cons rfl (by kernel_rfl) (op_int Try.underlying3) (opf_cons rfl (by kernel_rfl) (op_int Try.underlying3) (opf_one rfl (by kernel_rfl) (op115 enc w)))))
set_option maxRecDepth 100000 in
theorem op45 {H : Type} (enc : TypeId × Value → H) (w : World) : Opn enc Try.prog w 0 (fun _ => true) true 45 k45 G45 := op_iso (fun x : S45 => (x.f0, x.f1, x.f2, x.f3)) (fun x => ⟨x.1, x.2.1, x.2.2.1, x.2.2.2⟩) (fun _ => rfl) (op_struct Try.underlying45 (by kernel_rfl) (opf_cons rfl (by kernel_rfl) (op_slice 123 Try.underlying42 (by kernel_rfl) (op123 enc w)) (opf_cons rfl (by kernel_rfl) (op_int Try.underlying3) (opf_cons rfl (by kernel_rfl) (op_slice 117 Try.underlying43 (by kernel_rfl) (op117 enc w)) (opf_one rfl (by kernel_rfl) (op_int Try.underlying3))))))
set_option maxRecDepth 100000 in
theorem op60 {H : Type} (enc : TypeId × Value → H) (w : World) : Opn enc Try.prog w 0 (fun _ => true) true 60 (Kd.pair (Kd.slice 86 k86) (Kd.slice 45 k45)) G60 := op_struct Try.underlying60 (by kernel_rfl) (opf_cons rfl (by kernel_rfl) (op_slice 86 Try.underlying22 (by kernel_rfl) (op86 enc w)) (opf_one rfl (by kernel_rfl) (op_slice 45 Try.underlying58 (by kernel_rfl) (op45 enc w))))
set_option maxRecDepth 100000 in
theorem lifted (os : Os) (started : os.Started) (H : Type) (enc : TypeId × Value → H) :
  ReturnsInHanded {} Try.checked os 7 .any (Rows.fnExactLineWantsSpec.pre6 enc Try.prog Try.f7 Rows.fnExactLineWantsRow.domain false) (Rows.fnExactLineWantsSpec.post enc Try.prog Try.f7 false true false false) := by
 refine returnsInHanded_of_change_sized (C := Try.checked) own started (by kernel_rfl) Try.func7
  (ChangeSpec.witness6 (enc := enc) (C := Try.checked) false ⟨#[], #[.agg #[.slice none 0 0, .slice none 0 0]], []⟩ 8 (by kernel_rfl) (by kernel_rfl) (by kernel_rfl) (by kernel_rfl)) ?_
 intro W base args ds gs before hval0 hW hcnd hsz0 _
 have hval : ∀ (j : Nat) t v, Try.f7.params[j]? = some t → args[j]? = some v → Value.okWide Try.prog W .any base t v := hval0
 have hW' := hW
 obtain ⟨p, q, hA0, hV, rfl, hfz, hnd⟩ := hW
 have hA : DataW.TrodAll enc Try.prog W 0 (fun _ => true) true Try.f7.params.toList args.toList ds p := hA0
 rw [Try.params7] at hA hval
 obtain ⟨v0, vs0, d0, ds0, p0, q0, hargs, rfl, rfl, h0, r0⟩ := trodAll_cons hA
 obtain ⟨rfl, rfl, rfl⟩ := trodAll_nil r0
 obtain rfl : args = #[v0] := by cases args; simp_all
 obtain ⟨rfl, rfl⟩ := trodVars_none hV
 have k0h := h0
 have lt0 : ∀ x ∈ p0, x.block < W.heap.size := by obtain ⟨m, hm⟩ := k0h; exact DataW.trod_lt m _ _ _ hm
 obtain ⟨cs0, y0, rfl, hk0, hg0⟩ := came_struct Try.underlying60 (hval 0 60 v0 rfl rfl) (op60 enc W) h0
 obtain ⟨e0_0, t0_0, z0_0, u0_0, n0_0⟩ := hk0
 obtain ⟨A0_0, c0_0, s0_0, hc0_0, hr0_0⟩ := u0_0
 obtain ⟨A0_1, c0_1, s0_1, hc0_1, hr0_1⟩ := n0_0
 have E0 : cs0.toList = [.slice A0_0 y0.1.length c0_0, .slice A0_1 y0.2.length c0_1] := by rw [z0_0, s0_0, s0_1]; rfl
 obtain rfl : cs0 = #[.slice A0_0 y0.1.length c0_0, .slice A0_1 y0.2.length c0_1] := by cases cs0; simpa using E0
 clear hA0 hval0 hsz0
 obtain ⟨k, hP⟩ := Pure.FnExactLineWants y0 hg0
 refine (laws_FnExactLineWants.calls k A0_0 c0_0 y0.1 A0_1 c0_1 y0.2 true W hr0_0 hc0_0 hr0_1 hc0_1 hP).mono fun e W' hpost => ?_
 obtain ⟨he, bel⟩ : e = .returned (.bool true) ∧ Below W.heap.size W W' := by
  first
   | exact hpost
   | (obtain ⟨he, rfl⟩ := hpost; exact ⟨he, Below.refl _ _⟩)
   | (obtain ⟨he, n_, rfl⟩ := hpost; exact ⟨he, pw_below_drewN (Below.refl _ _) _⟩)
 subst he
 exact ⟨_, rfl, _, _, _, [], _, [], hW', trodAll_mk1 (shut_bool Try.underlying4 _), (trodAll_cons_mk (Below.trod laidOut (by kernel_rfl) (of_decide_eq_true (by kernel_rfl)) k0h bel lt0) trodAll_mk0), rfl, bel.frame _, fun h => by cases h⟩
theorem over : Rows.fnExactLineWantsRow.holds Try.pinned (OpenSpec.ofChange Rows.fnExactLineWantsSpec) :=
 OpenClaim.holds_of_wide 7 Try.f7 rfl rfl rfl rfl rfl rfl rfl ⟨rfl, rfl, rfl, rfl, rfl⟩ rfl rfl rfl rfl rfl (by kernel_rfl) Try.func7 (by kernel_rfl)
  (of_decide_eq_true (by kernel_rfl)) (by unfold Func.isWrapper; first | (rw [if_pos (by decide +kernel)]; kernel_rfl) | (rw [if_neg (by decide +kernel)]; exact ⟨rfl, rfl⟩))
  (fun os started H enc _ => lifted os started H enc)
theorem proved : Rows.FnExactLineWantsSaid := over
#print axioms proved
end Go.Proofs.Ytmphggpibaolcaa.fnExactLineWants
namespace Go.Proofs.Ytmphggpibaolcaa
theorem fnExactLineWants_holds : Rows.FnExactLineWantsSaid := fnExactLineWants.proved
end Go.Proofs.Ytmphggpibaolcaa
