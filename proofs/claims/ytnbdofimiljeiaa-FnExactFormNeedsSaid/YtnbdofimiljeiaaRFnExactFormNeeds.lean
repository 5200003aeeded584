/- The law 'FnExactFormNeeds': for every input it returns true and leaves its arguments as they were (the row, out of the pure statement; no condition). -/
import Derived.Test.YtnbdofimiljeiaaRows
import Derived.Test.YtnbdofimiljeiaaQFnExactFormNeedsx8
import Derived.Test.YtnbdofimiljeiaaPureFnExactFormNeeds
import Derived.Test.YtnbdofimiljeiaaOpen
import Derived.WalkKit
import Derived.ProofKit
import Derived.OpenShut
import Derived.ShutString
import Derived.ChangeOld
import Derived.Below
import Derived.SizedLaws
import Derived.Test.YtnbdofimiljeiaaWSized
namespace Go.Proofs.Ytnbdofimiljeiaa.fnExactFormNeeds
open Go.ChangeShapes Go.WideShapes Go.ChangeAt Go.RowKit Go.Proofs.YtnbdofimiljeiaaW.PrintWords Go.Proofs.Ytnbdofimiljeiaa.Opens Go.Proofs.Ytnbdofimiljeiaa.PFnExactFormNeeds Go.Proofs.Ytnbdofimiljeiaa.Pure
set_option linter.unusedVariables false
theorem own : ownKnob Try.prog.godebug = none := by kernel_rfl
theorem laidOut : laidOutB Try.prog = true := by kernel_rfl
set_option maxRecDepth 100000 in
theorem op44 {H : Type} (enc : TypeId × Value → H) (w : World) : Opn enc Try.prog w 0 (fun _ => true) true 44 k44 G44 := op_iso (fun x : S44 => (x.f0, x.f1, x.f2)) (fun x => ⟨x.1, x.2.1, x.2.2⟩) (fun _ => rfl) (op_struct Try.underlying44 (by kernel_rfl) (opf_cons rfl (by kernel_rfl) (op_int Try.underlying3) (opf_cons rfl (by kernel_rfl) (op_int Try.underlying3) (opf_one rfl (by kernel_rfl) (op_string Try.underlying9)))))
set_option maxRecDepth 100000 in
theorem op46 {H : Type} (enc : TypeId × Value → H) (w : World) : Opn enc Try.prog w 0 (fun _ => true) true 46 k46 G46 := op_iso (fun x : S46 => (x.f0, x.f1, x.f2)) (fun x => ⟨x.1, x.2.1, x.2.2⟩) (fun _ => rfl) (op_struct Try.underlying46 (by kernel_rfl) (opf_cons rfl (by kernel_rfl) (op_int Try.underlying3) (opf_cons rfl (by kernel_rfl) (op_int Try.underlying3) (opf_one rfl (by kernel_rfl) (op44 enc w)))))
set_option maxRecDepth 100000 in
theorem lifted (os : Os) (started : os.Started) (H : Type) (enc : TypeId × Value → H) :
    ReturnsInHanded {} Try.checked os 3 .any (Rows.fnExactFormNeedsSpec.pre6 enc Try.prog Try.f3 Rows.fnExactFormNeedsRow.domain false) (Rows.fnExactFormNeedsSpec.post enc Try.prog Try.f3 false true false false) := by
  refine returnsInHanded_of_change_sized (C := Try.checked) own started (by kernel_rfl) Try.func3
    (ChangeSpec.witness6 (enc := enc) (C := Try.checked) false ⟨#[], #[.slice none 0 0, .int .i64 0], []⟩ 8 (by kernel_rfl) (by kernel_rfl) (by kernel_rfl) (by kernel_rfl)) ?_
  intro W base args ds gs before hval0 hW hcnd hsz0 _
  have hval : ∀ (j : Nat) t v, Try.f3.params[j]? = some t → args[j]? = some v → Value.okWide Try.prog W .any base t v := hval0
  have hW' := hW
  obtain ⟨p, q, hA0, hV, rfl, hfz, hnd⟩ := hW
  have hA : DataW.TrodAll enc Try.prog W 0 (fun _ => true) true Try.f3.params.toList args.toList ds p := hA0
  rw [Try.params3] at hA hval
  obtain ⟨v0, vs0, d0, ds0, p0, q0, hargs, rfl, rfl, h0, r0⟩ := trodAll_cons hA
  obtain ⟨v1, vs1, d1, ds1, p1, q1, rfl, rfl, rfl, h1, r1⟩ := trodAll_cons r0
  obtain ⟨rfl, rfl, rfl⟩ := trodAll_nil r1
  obtain rfl : args = #[v0, v1] := by cases args; simp_all
  obtain ⟨rfl, rfl⟩ := trodVars_none hV
  have k0h := h0
  have lt0 : ∀ x ∈ p0, x.block < W.heap.size := by obtain ⟨m, hm⟩ := k0h; exact DataW.trod_lt m _ _ _ hm
  obtain ⟨A0, c0, l0, rfl, hc0, hr0, hm0, hg0⟩ := came_slice (w := W) Try.underlying22 (hval 0 22 v0 rfl rfl) (op_slice 46 Try.underlying22 (by kernel_rfl) (op46 enc W)) h0
  have k1h := h1
  have lt1 : ∀ x ∈ p1, x.block < W.heap.size := by obtain ⟨m, hm⟩ := k1h; exact DataW.trod_lt m _ _ _ hm
  obtain ⟨a1, rfl, rfl, rfl, w1⟩ := open_int Try.underlying3 (hval 1 3 v1 rfl rfl) h1
  clear hA0 hval0 hsz0
  obtain ⟨k, hP⟩ := Pure.FnExactFormNeeds l0 a1 hm0 hg0 w1
  refine (laws_FnExactFormNeeds.calls k A0 c0 l0 a1 true W hr0 hc0 hP).mono fun e W' hpost => ?_
  obtain ⟨he, bel⟩ : e = .returned (.bool true) ∧ Below W.heap.size W W' := by
    first
      | exact hpost
      | (obtain ⟨he, rfl⟩ := hpost; exact ⟨he, Below.refl _ _⟩)
      | (obtain ⟨he, n_, rfl⟩ := hpost; exact ⟨he, pw_below_drewN (Below.refl _ _) _⟩)
  subst he
  exact ⟨_, rfl, _, _, _, [], _, [], hW', trodAll_mk1 (shut_bool Try.underlying4 _), (trodAll_cons_mk (Below.trod laidOut (by kernel_rfl) (of_decide_eq_true (by kernel_rfl)) k0h bel lt0) (trodAll_cons_mk (Below.trod laidOut (by kernel_rfl) (of_decide_eq_true (by kernel_rfl)) k1h bel lt1) trodAll_mk0)), rfl, bel.frame _, fun h => by cases h⟩
theorem over : Rows.fnExactFormNeedsRow.holds Try.pinned (OpenSpec.ofChange Rows.fnExactFormNeedsSpec) :=
  OpenClaim.holds_of_wide 3 Try.f3 rfl rfl rfl rfl rfl rfl rfl ⟨rfl, rfl, rfl, rfl, rfl⟩ rfl rfl rfl rfl rfl (by kernel_rfl) Try.func3 (by kernel_rfl)
    (of_decide_eq_true (by kernel_rfl)) (by unfold Func.isWrapper; first | (rw [if_pos (by decide +kernel)]; kernel_rfl) | (rw [if_neg (by decide +kernel)]; exact ⟨rfl, rfl⟩))
    (fun os started H enc _ => lifted os started H enc)
theorem proved : Rows.FnExactFormNeedsSaid := over
#print axioms proved
end Go.Proofs.Ytnbdofimiljeiaa.fnExactFormNeeds
namespace Go.Proofs.Ytnbdofimiljeiaa
/-- The row, under a short name, for the claim. -/
theorem fnExactFormNeeds_holds : Rows.FnExactFormNeedsSaid := fnExactFormNeeds.proved
end Go.Proofs.Ytnbdofimiljeiaa
