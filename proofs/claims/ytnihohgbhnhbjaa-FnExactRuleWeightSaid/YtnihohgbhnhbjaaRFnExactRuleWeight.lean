/- The law 'FnExactRuleWeight': for every input it returns true and leaves its arguments as they were (the row, out of the pure statement; no condition). -/
import Derived.Test.YtnihohgbhnhbjaaRows
import Derived.Test.YtnihohgbhnhbjaaQFnExactRuleWeightx5
import Derived.Test.YtnihohgbhnhbjaaPureFnExactRuleWeight
import Derived.Test.YtnihohgbhnhbjaaOpen
import Derived.WalkKit
import Derived.ProofKit
import Derived.OpenShut
import Derived.ShutString
import Derived.ChangeOld
import Derived.Below
import Derived.SizedLaws
import Derived.Test.YtnihohgbhnhbjaaWSized
namespace Go.Proofs.Ytnihohgbhnhbjaa.fnExactRuleWeight
open Go.ChangeShapes Go.WideShapes Go.ChangeAt Go.RowKit Go.Proofs.YtnihohgbhnhbjaaW.PrintWords Go.Proofs.Ytnihohgbhnhbjaa.Opens Go.Proofs.Ytnihohgbhnhbjaa.PFnExactRuleWeight Go.Proofs.Ytnihohgbhnhbjaa.Pure
set_option linter.unusedVariables false
theorem own : ownKnob Try.prog.godebug = none := by kernel_rfl
theorem laidOut : laidOutB Try.prog = true := by kernel_rfl
set_option maxRecDepth 100000 in
theorem op34 {H : Type} (enc : TypeId × Value → H) (w : World) : Opn enc Try.prog w 0 (fun _ => true) true 34 (Kd.pair (Kd.int .i64) (Kd.pair (Kd.int .i64) Kd.string)) G34 := op_struct Try.underlying34 (by kernel_rfl) (opf_cons rfl (by kernel_rfl) (op_int Try.underlying3) (opf_cons rfl (by kernel_rfl) (op_int Try.underlying3) (opf_one rfl (by kernel_rfl) (op_string Try.underlying9))))
set_option maxRecDepth 100000 in
theorem op36 {H : Type} (enc : TypeId × Value → H) (w : World) : Opn enc Try.prog w 0 (fun _ => true) true 36 (Kd.pair (Kd.int .i64) (Kd.pair (Kd.int .i64) (Kd.pair (Kd.int .i64) (Kd.pair (Kd.pair (Kd.int .i64) (Kd.pair (Kd.int .i64) Kd.string)) (Kd.pair (Kd.int .i64) (Kd.int .i64)))))) G36 := op_struct Try.underlying36 (by kernel_rfl) (opf_cons rfl (by kernel_rfl) (op_int Try.underlying3) (opf_cons rfl (by kernel_rfl) (op_int Try.underlying3) (opf_cons rfl (by kernel_rfl) (op_int Try.underlying3) (opf_cons rfl (by kernel_rfl) (op34 enc w) (opf_cons rfl (by kernel_rfl) (op_int Try.underlying3) (opf_one rfl (by kernel_rfl) (op_int Try.underlying3)))))))
set_option maxRecDepth 100000 in
theorem lifted (os : Os) (started : os.Started) (H : Type) (enc : TypeId × Value → H) :
    ReturnsInHanded {} Try.checked os 4 .any (Rows.fnExactRuleWeightSpec.pre6 enc Try.prog Try.f4 Rows.fnExactRuleWeightRow.domain false) (Rows.fnExactRuleWeightSpec.post enc Try.prog Try.f4 false true false false) := by
  refine returnsInHanded_of_change_sized (C := Try.checked) own started (by kernel_rfl) Try.func4
    (ChangeSpec.witness6 (enc := enc) (C := Try.checked) false ⟨#[], #[.agg #[.int .i64 0, .int .i64 0, .int .i64 0, .int .i64 0, .int .i64 0, .string ⟨#[]⟩, .int .i64 0, .int .i64 0]], []⟩ 8 (by kernel_rfl) (by kernel_rfl) (by kernel_rfl) (by kernel_rfl)) ?_
  intro W base args ds gs before hval0 hW hcnd hsz0 _
  have hval : ∀ (j : Nat) t v, Try.f4.params[j]? = some t → args[j]? = some v → Value.okWide Try.prog W .any base t v := hval0
  have hW' := hW
  obtain ⟨p, q, hA0, hV, rfl, hfz, hnd⟩ := hW
  have hA : DataW.TrodAll enc Try.prog W 0 (fun _ => true) true Try.f4.params.toList args.toList ds p := hA0
  rw [Try.params4] at hA hval
  obtain ⟨v0, vs0, d0, ds0, p0, q0, hargs, rfl, rfl, h0, r0⟩ := trodAll_cons hA
  obtain ⟨rfl, rfl, rfl⟩ := trodAll_nil r0
  obtain rfl : args = #[v0] := by cases args; simp_all
  obtain ⟨rfl, rfl⟩ := trodVars_none hV
  have k0h := h0
  have lt0 : ∀ x ∈ p0, x.block < W.heap.size := by obtain ⟨m, hm⟩ := k0h; exact DataW.trod_lt m _ _ _ hm
  obtain ⟨cs0, y0, rfl, hk0, hg0⟩ := came_struct Try.underlying36 (hval 0 36 v0 rfl rfl) (op36 enc W) h0
  obtain ⟨e0_0, t0_0, z0_0, u0_0, n0_0⟩ := hk0
  have s0_0 : _ = [Value.int .i64 y0.1] := u0_0
  obtain ⟨e0_1, t0_1, z0_1, u0_1, n0_1⟩ := n0_0
  have s0_1 : _ = [Value.int .i64 y0.2.1] := u0_1
  obtain ⟨e0_2, t0_2, z0_2, u0_2, n0_2⟩ := n0_1
  have s0_2 : _ = [Value.int .i64 y0.2.2.1] := u0_2
  obtain ⟨e0_3, t0_3, z0_3, u0_3, n0_3⟩ := n0_2
  obtain ⟨e0_4, t0_4, z0_4, u0_4, n0_4⟩ := u0_3
  have s0_4 : _ = [Value.int .i64 y0.2.2.2.1.1] := u0_4
  obtain ⟨e0_5, t0_5, z0_5, u0_5, n0_5⟩ := n0_4
  have s0_5 : _ = [Value.int .i64 y0.2.2.2.1.2.1] := u0_5
  have s0_6 : _ = [Value.string y0.2.2.2.1.2.2] := n0_5
  obtain ⟨e0_7, t0_7, z0_7, u0_7, n0_7⟩ := n0_3
  have s0_7 : _ = [Value.int .i64 y0.2.2.2.2.1] := u0_7
  have s0_8 : _ = [Value.int .i64 y0.2.2.2.2.2] := n0_7
  have E0 : cs0.toList = [.int .i64 y0.1, .int .i64 y0.2.1, .int .i64 y0.2.2.1, .int .i64 y0.2.2.2.1.1, .int .i64 y0.2.2.2.1.2.1, .string y0.2.2.2.1.2.2, .int .i64 y0.2.2.2.2.1, .int .i64 y0.2.2.2.2.2] := by rw [z0_0, s0_0, z0_1, s0_1, z0_2, s0_2, z0_3, z0_4, s0_4, z0_5, s0_5, s0_6, z0_7, s0_7, s0_8]; rfl
  obtain rfl : cs0 = #[.int .i64 y0.1, .int .i64 y0.2.1, .int .i64 y0.2.2.1, .int .i64 y0.2.2.2.1.1, .int .i64 y0.2.2.2.1.2.1, .string y0.2.2.2.1.2.2, .int .i64 y0.2.2.2.2.1, .int .i64 y0.2.2.2.2.2] := by cases cs0; simpa using E0
  clear hA0 hval0 hsz0
  obtain ⟨k, hP⟩ := Pure.FnExactRuleWeight y0 hg0
  refine (laws_FnExactRuleWeight.calls k (y0.1) (y0.2.1) (y0.2.2.1) (y0.2.2.2.1.1) (y0.2.2.2.1.2.1) (y0.2.2.2.1.2.2) (y0.2.2.2.2.1) (y0.2.2.2.2.2) true W  hP).mono fun e W' hpost => ?_
  obtain ⟨he, bel⟩ : e = .returned (.bool true) ∧ Below W.heap.size W W' := by
    first
      | exact hpost
      | (obtain ⟨he, rfl⟩ := hpost; exact ⟨he, Below.refl _ _⟩)
      | (obtain ⟨he, n_, rfl⟩ := hpost; exact ⟨he, pw_below_drewN (Below.refl _ _) _⟩)
  subst he
  exact ⟨_, rfl, _, _, _, [], _, [], hW', trodAll_mk1 (shut_bool Try.underlying4 _), (trodAll_cons_mk (Below.trod laidOut (by kernel_rfl) (of_decide_eq_true (by kernel_rfl)) k0h bel lt0) trodAll_mk0), rfl, bel.frame _, fun h => by cases h⟩
theorem over : Rows.fnExactRuleWeightRow.holds Try.pinned (OpenSpec.ofChange Rows.fnExactRuleWeightSpec) :=
  OpenClaim.holds_of_wide 4 Try.f4 rfl rfl rfl rfl rfl rfl rfl ⟨rfl, rfl, rfl, rfl, rfl⟩ rfl rfl rfl rfl rfl (by kernel_rfl) Try.func4 (by kernel_rfl)
    (of_decide_eq_true (by kernel_rfl)) (by unfold Func.isWrapper; first | (rw [if_pos (by decide +kernel)]; kernel_rfl) | (rw [if_neg (by decide +kernel)]; exact ⟨rfl, rfl⟩))
    (fun os started H enc _ => lifted os started H enc)
theorem proved : Rows.FnExactRuleWeightSaid := over
#print axioms proved
end Go.Proofs.Ytnihohgbhnhbjaa.fnExactRuleWeight
namespace Go.Proofs.Ytnihohgbhnhbjaa
/-- The row, under a short name, for the claim. -/
theorem fnExactRuleWeight_holds : Rows.FnExactRuleWeightSaid := fnExactRuleWeight.proved
end Go.Proofs.Ytnihohgbhnhbjaa
