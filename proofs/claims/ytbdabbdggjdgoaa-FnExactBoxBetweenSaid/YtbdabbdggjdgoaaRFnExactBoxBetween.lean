/- The law 'FnExactBoxBetween': for every input it returns true and leaves its arguments as they were (the row, out of the pure statement; no condition). -/
import Derived.Test.YtbdabbdggjdgoaaRows
import Derived.Test.YtbdabbdggjdgoaaPFnExactBoxBetweenx3
import Derived.Test.YtbdabbdggjdgoaaPureFnExactBoxBetween
import Derived.Test.YtbdabbdggjdgoaaOpen
import Derived.WalkKit
import Derived.ProofKit
import Derived.OpenShut
import Derived.ShutString
import Derived.ChangeOld
import Derived.Below
import Derived.SizedLaws
import Derived.Test.YtbdabbdggjdgoaaWSized
namespace Go.Proofs.Ytbdabbdggjdgoaa.fnExactBoxBetween
open Go.ChangeShapes Go.WideShapes Go.ChangeAt Go.RowKit Go.Proofs.YtbdabbdggjdgoaaW.PrintWords Go.Proofs.Ytbdabbdggjdgoaa.Opens Go.Proofs.Ytbdabbdggjdgoaa.PFnExactBoxBetween Go.Proofs.Ytbdabbdggjdgoaa.Pure
set_option linter.unusedVariables false
theorem own : ownKnob Try.prog.godebug = none := by kernel_rfl
theorem laidOut : laidOutB Try.prog = true := by kernel_rfl
set_option maxRecDepth 100000 in
theorem op23 {H : Type} (enc : TypeId × Value → H) (w : World) : Opn enc Try.prog w 0 (fun _ => true) true 23 (Kd.pair (Kd.int .i64) (Kd.pair (Kd.int .i64) (Kd.pair (Kd.int .i64) (Kd.int .i64)))) G23 := op_struct Try.underlying23 (by kernel_rfl) (opf_cons rfl (by kernel_rfl) (op_int Try.underlying3) (opf_cons rfl (by kernel_rfl) (op_int Try.underlying3) (opf_cons rfl (by kernel_rfl) (op_int Try.underlying3) (opf_one rfl (by kernel_rfl) (op_int Try.underlying3)))))
set_option maxRecDepth 100000 in
theorem lifted (os : Os) (started : os.Started) (H : Type) (enc : TypeId × Value → H) :
    ReturnsInHanded {} Try.checked os 4 .any (Rows.fnExactBoxBetweenSpec.pre6 enc Try.prog Try.f4 Rows.fnExactBoxBetweenRow.domain false) (Rows.fnExactBoxBetweenSpec.post enc Try.prog Try.f4 false true false false) := by
  refine returnsInHanded_of_change_sized (C := Try.checked) own started (by kernel_rfl) Try.func4
    (ChangeSpec.witness6 (enc := enc) (C := Try.checked) false ⟨#[], #[.agg #[.int .i64 0, .int .i64 0, .int .i64 0, .int .i64 0], .agg #[.int .i64 0, .int .i64 0, .int .i64 0, .int .i64 0], .int .i64 0, .int .i64 0], []⟩ 8 (by kernel_rfl) (by kernel_rfl) (by kernel_rfl) (by kernel_rfl)) ?_
  intro W base args ds gs before hval0 hW hcnd hsz0 _
  have hval : ∀ (j : Nat) t v, Try.f4.params[j]? = some t → args[j]? = some v → Value.okWide Try.prog W .any base t v := hval0
  have hW' := hW
  obtain ⟨p, q, hA0, hV, rfl, hfz, hnd⟩ := hW
  have hA : DataW.TrodAll enc Try.prog W 0 (fun _ => true) true Try.f4.params.toList args.toList ds p := hA0
  rw [Try.params4] at hA hval
  obtain ⟨v0, vs0, d0, ds0, p0, q0, hargs, rfl, rfl, h0, r0⟩ := trodAll_cons hA
  obtain ⟨v1, vs1, d1, ds1, p1, q1, rfl, rfl, rfl, h1, r1⟩ := trodAll_cons r0
  obtain ⟨v2, vs2, d2, ds2, p2, q2, rfl, rfl, rfl, h2, r2⟩ := trodAll_cons r1
  obtain ⟨v3, vs3, d3, ds3, p3, q3, rfl, rfl, rfl, h3, r3⟩ := trodAll_cons r2
  obtain ⟨rfl, rfl, rfl⟩ := trodAll_nil r3
  obtain rfl : args = #[v0, v1, v2, v3] := by cases args; simp_all
  obtain ⟨rfl, rfl⟩ := trodVars_none hV
  have k0h := h0
  have lt0 : ∀ x ∈ p0, x.block < W.heap.size := by obtain ⟨m, hm⟩ := k0h; exact DataW.trod_lt m _ _ _ hm
  obtain ⟨cs0, y0, rfl, hk0, hg0⟩ := came_struct Try.underlying23 (hval 0 23 v0 rfl rfl) (op23 enc W) h0
  obtain ⟨e0_0, t0_0, z0_0, u0_0, n0_0⟩ := hk0
  have s0_0 : _ = [Value.int .i64 y0.1] := u0_0
  obtain ⟨e0_1, t0_1, z0_1, u0_1, n0_1⟩ := n0_0
  have s0_1 : _ = [Value.int .i64 y0.2.1] := u0_1
  obtain ⟨e0_2, t0_2, z0_2, u0_2, n0_2⟩ := n0_1
  have s0_2 : _ = [Value.int .i64 y0.2.2.1] := u0_2
  have s0_3 : _ = [Value.int .i64 y0.2.2.2] := n0_2
  have E0 : cs0.toList = [.int .i64 y0.1, .int .i64 y0.2.1, .int .i64 y0.2.2.1, .int .i64 y0.2.2.2] := by rw [z0_0, s0_0, z0_1, s0_1, z0_2, s0_2, s0_3]; rfl
  obtain rfl : cs0 = #[.int .i64 y0.1, .int .i64 y0.2.1, .int .i64 y0.2.2.1, .int .i64 y0.2.2.2] := by cases cs0; simpa using E0
  have k1h := h1
  have lt1 : ∀ x ∈ p1, x.block < W.heap.size := by obtain ⟨m, hm⟩ := k1h; exact DataW.trod_lt m _ _ _ hm
  obtain ⟨cs1, y1, rfl, hk1, hg1⟩ := came_struct Try.underlying23 (hval 1 23 v1 rfl rfl) (op23 enc W) h1
  obtain ⟨e1_0, t1_0, z1_0, u1_0, n1_0⟩ := hk1
  have s1_0 : _ = [Value.int .i64 y1.1] := u1_0
  obtain ⟨e1_1, t1_1, z1_1, u1_1, n1_1⟩ := n1_0
  have s1_1 : _ = [Value.int .i64 y1.2.1] := u1_1
  obtain ⟨e1_2, t1_2, z1_2, u1_2, n1_2⟩ := n1_1
  have s1_2 : _ = [Value.int .i64 y1.2.2.1] := u1_2
  have s1_3 : _ = [Value.int .i64 y1.2.2.2] := n1_2
  have E1 : cs1.toList = [.int .i64 y1.1, .int .i64 y1.2.1, .int .i64 y1.2.2.1, .int .i64 y1.2.2.2] := by rw [z1_0, s1_0, z1_1, s1_1, z1_2, s1_2, s1_3]; rfl
  obtain rfl : cs1 = #[.int .i64 y1.1, .int .i64 y1.2.1, .int .i64 y1.2.2.1, .int .i64 y1.2.2.2] := by cases cs1; simpa using E1
  have k2h := h2
  have lt2 : ∀ x ∈ p2, x.block < W.heap.size := by obtain ⟨m, hm⟩ := k2h; exact DataW.trod_lt m _ _ _ hm
  obtain ⟨a2, rfl, rfl, rfl, w2⟩ := open_int Try.underlying3 (hval 2 3 v2 rfl rfl) h2
  have k3h := h3
  have lt3 : ∀ x ∈ p3, x.block < W.heap.size := by obtain ⟨m, hm⟩ := k3h; exact DataW.trod_lt m _ _ _ hm
  obtain ⟨a3, rfl, rfl, rfl, w3⟩ := open_int Try.underlying3 (hval 3 3 v3 rfl rfl) h3
  clear hA0 hval0 hsz0
  have hP := Pure.FnExactBoxBetween y0 y1 a2 a3 hg0 hg1 w2 w3
  refine (laws_FnExactBoxBetween.calls (y0.1) (y0.2.1) (y0.2.2.1) (y0.2.2.2) (y1.1) (y1.2.1) (y1.2.2.1) (y1.2.2.2) a2 a3 true W  hP).mono fun e W' hpost => ?_
  obtain ⟨he, bel⟩ : e = .returned (.bool true) ∧ Below W.heap.size W W' := by
    first
      | exact hpost
      | (obtain ⟨he, rfl⟩ := hpost; exact ⟨he, Below.refl _ _⟩)
      | (obtain ⟨he, n_, rfl⟩ := hpost; exact ⟨he, pw_below_drewN (Below.refl _ _) _⟩)
  subst he
  exact ⟨_, rfl, _, _, _, [], _, [], hW', trodAll_mk1 (shut_bool Try.underlying4 _), (trodAll_cons_mk (Below.trod laidOut (by kernel_rfl) (of_decide_eq_true (by kernel_rfl)) k0h bel lt0) (trodAll_cons_mk (Below.trod laidOut (by kernel_rfl) (of_decide_eq_true (by kernel_rfl)) k1h bel lt1) (trodAll_cons_mk (Below.trod laidOut (by kernel_rfl) (of_decide_eq_true (by kernel_rfl)) k2h bel lt2) (trodAll_cons_mk (Below.trod laidOut (by kernel_rfl) (of_decide_eq_true (by kernel_rfl)) k3h bel lt3) trodAll_mk0)))), rfl, bel.frame _, fun h => by cases h⟩
theorem over : Rows.fnExactBoxBetweenRow.holds Try.pinned (OpenSpec.ofChange Rows.fnExactBoxBetweenSpec) :=
  OpenClaim.holds_of_wide 4 Try.f4 rfl rfl rfl rfl rfl rfl rfl ⟨rfl, rfl, rfl, rfl, rfl⟩ rfl rfl rfl rfl rfl (by kernel_rfl) Try.func4 (by kernel_rfl)
    (of_decide_eq_true (by kernel_rfl)) (by unfold Func.isWrapper; first | (rw [if_pos (by decide +kernel)]; kernel_rfl) | (rw [if_neg (by decide +kernel)]; exact ⟨rfl, rfl⟩))
    (fun os started H enc _ => lifted os started H enc)
theorem proved : Rows.FnExactBoxBetweenSaid := over
#print axioms proved
end Go.Proofs.Ytbdabbdggjdgoaa.fnExactBoxBetween
namespace Go.Proofs.Ytbdabbdggjdgoaa
/-- The row, under a short name, for the claim. -/
theorem fnExactBoxBetween_holds : Rows.FnExactBoxBetweenSaid := fnExactBoxBetween.proved
end Go.Proofs.Ytbdabbdggjdgoaa
