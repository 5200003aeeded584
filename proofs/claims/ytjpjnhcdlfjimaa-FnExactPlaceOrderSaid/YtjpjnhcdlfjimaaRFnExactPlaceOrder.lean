/- The law 'FnExactPlaceOrder': for every input it returns true and leaves its arguments as they were (the row, out of the pure statement; no condition). -/
import Derived.Test.YtjpjnhcdlfjimaaRows
import Derived.Test.YtjpjnhcdlfjimaaQFnExactPlaceOrderx5
import Derived.Test.YtjpjnhcdlfjimaaPureFnExactPlaceOrder
import Derived.Test.YtjpjnhcdlfjimaaOpen
import Derived.WalkKit
import Derived.ProofKit
import Derived.OpenShut
import Derived.ShutString
import Derived.ChangeOld
import Derived.Below
import Derived.SizedLaws
import Derived.Test.YtjpjnhcdlfjimaaWSized
namespace Go.Proofs.Ytjpjnhcdlfjimaa.fnExactPlaceOrder
open Go.ChangeShapes Go.WideShapes Go.ChangeAt Go.RowKit Go.Proofs.YtjpjnhcdlfjimaaW.PrintWords Go.Proofs.Ytjpjnhcdlfjimaa.Opens Go.Proofs.Ytjpjnhcdlfjimaa.PFnExactPlaceOrder Go.Proofs.Ytjpjnhcdlfjimaa.Pure
set_option linter.unusedVariables false
theorem own : ownKnob Try.prog.godebug = none := by kernel_rfl
theorem laidOut : laidOutB Try.prog = true := by kernel_rfl
set_option maxRecDepth 100000 in
theorem op54 {H : Type} (enc : TypeId × Value → H) (w : World) : Opn enc Try.prog w 0 (fun _ => true) true 54 k54 G54 := op_iso (fun x : S54 => (x.f0, x.f1)) (fun x => ⟨x.1, x.2⟩) (fun _ => rfl) (op_struct Try.underlying54 (by kernel_rfl) (opf_cons rfl (by kernel_rfl) (op_int Try.underlying3) (opf_one rfl (by kernel_rfl) (op_int Try.underlying3))))
set_option maxRecDepth 100000 in
theorem lifted (os : Os) (started : os.Started) (H : Type) (enc : TypeId × Value → H) :
    ReturnsInHanded {} Try.checked os 6 .any (Rows.fnExactPlaceOrderSpec.pre6 enc Try.prog Try.f6 Rows.fnExactPlaceOrderRow.domain false) (Rows.fnExactPlaceOrderSpec.post enc Try.prog Try.f6 false true false false) := by
  refine returnsInHanded_of_change_sized (C := Try.checked) own started (by kernel_rfl) Try.func6
    (ChangeSpec.witness6 (enc := enc) (C := Try.checked) false ⟨#[], #[.slice none 0 0, .slice none 0 0], []⟩ 8 (by kernel_rfl) (by kernel_rfl) (by kernel_rfl) (by kernel_rfl)) ?_
  intro W base args ds gs before hval0 hW hcnd hsz0 _
  have hval : ∀ (j : Nat) t v, Try.f6.params[j]? = some t → args[j]? = some v → Value.okWide Try.prog W .any base t v := hval0
  have hW' := hW
  obtain ⟨p, q, hA0, hV, rfl, hfz, hnd⟩ := hW
  have hA : DataW.TrodAll enc Try.prog W 0 (fun _ => true) true Try.f6.params.toList args.toList ds p := hA0
  rw [Try.params6] at hA hval
  obtain ⟨v0, vs0, d0, ds0, p0, q0, hargs, rfl, rfl, h0, r0⟩ := trodAll_cons hA
  obtain ⟨v1, vs1, d1, ds1, p1, q1, rfl, rfl, rfl, h1, r1⟩ := trodAll_cons r0
  obtain ⟨rfl, rfl, rfl⟩ := trodAll_nil r1
  obtain rfl : args = #[v0, v1] := by cases args; simp_all
  obtain ⟨rfl, rfl⟩ := trodVars_none hV
  have k0h := h0
  have lt0 : ∀ x ∈ p0, x.block < W.heap.size := by obtain ⟨m, hm⟩ := k0h; exact DataW.trod_lt m _ _ _ hm
  obtain ⟨A0, c0, l0, rfl, hc0, hr0, hm0, hg0⟩ := came_slice (w := W) Try.underlying37 (hval 0 37 v0 rfl rfl) (op_slice 54 Try.underlying37 (by kernel_rfl) (op54 enc W)) h0
  have k1h := h1
  have lt1 : ∀ x ∈ p1, x.block < W.heap.size := by obtain ⟨m, hm⟩ := k1h; exact DataW.trod_lt m _ _ _ hm
  obtain ⟨A1, c1, l1, rfl, hc1, hr1, hm1, hg1⟩ := came_slice (w := W) Try.underlying37 (hval 1 37 v1 rfl rfl) (op_slice 54 Try.underlying37 (by kernel_rfl) (op54 enc W)) h1
  clear hA0 hval0 hsz0
  obtain ⟨k, hP⟩ := Pure.FnExactPlaceOrder l0 l1 hm0 hg0 hm1 hg1
  refine (laws_FnExactPlaceOrder.calls k A0 c0 l0 A1 c1 l1 true W hr0 hc0 hr1 hc1 hP).mono fun e W' hpost => ?_
  obtain ⟨he, bel⟩ : e = .returned (.bool true) ∧ Below W.heap.size W W' := by
    first
      | exact hpost
      | (obtain ⟨he, rfl⟩ := hpost; exact ⟨he, Below.refl _ _⟩)
      | (obtain ⟨he, n_, rfl⟩ := hpost; exact ⟨he, pw_below_drewN (Below.refl _ _) _⟩)
  subst he
  exact ⟨_, rfl, _, _, _, [], _, [], hW', trodAll_mk1 (shut_bool Try.underlying4 _), (trodAll_cons_mk (Below.trod laidOut (by kernel_rfl) (of_decide_eq_true (by kernel_rfl)) k0h bel lt0) (trodAll_cons_mk (Below.trod laidOut (by kernel_rfl) (of_decide_eq_true (by kernel_rfl)) k1h bel lt1) trodAll_mk0)), rfl, bel.frame _, fun h => by cases h⟩
theorem over : Rows.fnExactPlaceOrderRow.holds Try.pinned (OpenSpec.ofChange Rows.fnExactPlaceOrderSpec) :=
  OpenClaim.holds_of_wide 6 Try.f6 rfl rfl rfl rfl rfl rfl rfl ⟨rfl, rfl, rfl, rfl, rfl⟩ rfl rfl rfl rfl rfl (by kernel_rfl) Try.func6 (by kernel_rfl)
    (of_decide_eq_true (by kernel_rfl)) (by unfold Func.isWrapper; first | (rw [if_pos (by decide +kernel)]; kernel_rfl) | (rw [if_neg (by decide +kernel)]; exact ⟨rfl, rfl⟩))
    (fun os started H enc _ => lifted os started H enc)
theorem proved : Rows.FnExactPlaceOrderSaid := over
#print axioms proved
end Go.Proofs.Ytjpjnhcdlfjimaa.fnExactPlaceOrder
namespace Go.Proofs.Ytjpjnhcdlfjimaa
/-- The row, under a short name, for the claim. -/
theorem fnExactPlaceOrder_holds : Rows.FnExactPlaceOrderSaid := fnExactPlaceOrder.proved
end Go.Proofs.Ytjpjnhcdlfjimaa
