/- The law 'FnProgBelow': for every input it returns true and leaves its arguments as they were (the row, out of the pure statement; no condition). -/
import Derived.Test.YtmgdjmeoljepgaaRows
import Derived.Test.YtmgdjmeoljepgaaZFnProgBelowQFnProgBelowx26
import Derived.Test.YtmgdjmeoljepgaaZFnProgBelowPureFnProgBelow
import Derived.Test.YtmgdjmeoljepgaaZFnProgBelowOpen
import Derived.WalkKit
import Derived.ProofKit
import Derived.OpenShut
import Derived.ShutString
import Derived.ChangeOld
import Derived.Below
import Derived.SizedLaws
import Derived.Test.YtmgdjmeoljepgaaZFnProgBelowWSized
namespace Go.Proofs.Ytmgdjmeoljepgaa.fnProgBelow
open Go.ChangeShapes Go.WideShapes Go.ChangeAt Go.RowKit Go.Proofs.YtmgdjmeoljepgaaW.PrintWords Go.Proofs.Ytmgdjmeoljepgaa.Opens Go.Proofs.Ytmgdjmeoljepgaa.PFnProgBelow Go.Proofs.Ytmgdjmeoljepgaa.Pure
set_option linter.unusedVariables false
theorem own : ownKnob Try.prog.godebug = none := by kernel_rfl
theorem laidOut : laidOutB Try.prog = true := by kernel_rfl
set_option maxRecDepth 100000 in
theorem lifted (os : Os) (started : os.Started) (H : Type) (enc : TypeId × Value → H) :
  ReturnsInHanded {} Try.checked os 3 .any (Rows.fnProgBelowSpec.pre6 enc Try.prog Try.f3 Rows.fnProgBelowRow.domain false) (Rows.fnProgBelowSpec.post enc Try.prog Try.f3 false true false false) := by
 refine returnsInHanded_of_change_sized (C := Try.checked) own started (by kernel_rfl) Try.func3
  (ChangeSpec.witness6 (enc := enc) (C := Try.checked) false ⟨#[], #[.slice none 0 0], []⟩ 8 (by kernel_rfl) (by kernel_rfl) (by kernel_rfl) (by kernel_rfl)) ?_
 intro W base args ds gs before hval0 hW hcnd hsz0 _; have hsz : (DataW.weightsEach Try.prog (Try.f3.params.toList ++ Rows.fnProgBelowSpec.plain.varTypes Try.prog) (ds ++ gs)).all (· ≤ reachBytes) = true := hsz0
 have hval : ∀ (j : Nat) t v, Try.f3.params[j]? = some t → args[j]? = some v → Value.okWide Try.prog W .any base t v := hval0; have hW' := hW; obtain ⟨p, q, hA0, hV, rfl, hfz, hnd⟩ := hW; have hA : DataW.TrodAll enc Try.prog W 0 (fun _ => true) true Try.f3.params.toList args.toList ds p := hA0; rw [Try.params3] at hA hval hsz; obtain ⟨v0, vs0, d0, ds0, p0, q0, hargs, rfl, rfl, h0, r0⟩ := trodAll_cons hA; obtain ⟨rfl, rfl, rfl⟩ := trodAll_nil r0
 obtain rfl : args = #[v0] := by cases args; simp_all
 obtain ⟨rfl, rfl⟩ := trodVars_none hV; have k0h := h0
 have lt0 : ∀ x ∈ p0, x.block < W.heap.size := by obtain ⟨m, hm⟩ := k0h; exact DataW.trod_lt m _ _ _ hm
 obtain ⟨A0, c0, l0, rfl, hc0, hr0, hm0, hg0⟩ := came_slice (w := W) Try.underlying22 (hval 0 22 v0 rfl rfl) (op_slice 5 Try.underlying22 (by kernel_rfl) (op_int Try.underlying5)) h0; have y0 : l0.length * 1 ≤ 140737488351232 := sized_ints hsz (j := 0) (t := 22) rfl rfl Try.underlying22 Try.underlying5 (by kernel_rfl) (by kernel_rfl) h0; clear hA0 hval0 hsz0 hsz; obtain ⟨k, hP⟩ := Pure.FnProgBelow l0 hm0 y0 hg0
 refine (laws_FnProgBelow.calls k A0 c0 l0 true W hr0 hc0 hP).mono fun e W' hpost => ?_
 obtain ⟨he, bel⟩ : e = .returned (.bool true) ∧ Below W.heap.size W W' := by
  first
   | exact hpost
   | (obtain ⟨he, rfl⟩ := hpost; exact ⟨he, Below.refl _ _⟩)
   | (obtain ⟨he, n_, rfl⟩ := hpost; exact ⟨he, pw_below_drewN (Below.refl _ _) _⟩)
 subst he
 exact ⟨_, rfl, _, _, _, [], _, [], hW', trodAll_mk1 (shut_bool Try.underlying4 _), (trodAll_cons_mk (Below.trod laidOut (by kernel_rfl) (of_decide_eq_true (by kernel_rfl)) k0h bel lt0) trodAll_mk0), rfl, bel.frame _, fun h => by cases h⟩
theorem over : Rows.fnProgBelowRow.holds Try.pinned (OpenSpec.ofChange Rows.fnProgBelowSpec) :=
 OpenClaim.holds_of_wide 3 Try.f3 rfl rfl rfl rfl rfl rfl rfl ⟨rfl, rfl, rfl, rfl, rfl⟩ rfl rfl rfl rfl rfl (by kernel_rfl) Try.func3 (by kernel_rfl)
  (of_decide_eq_true (by kernel_rfl)) (by unfold Func.isWrapper; first | (rw [if_pos (by decide +kernel)]; kernel_rfl) | (rw [if_neg (by decide +kernel)]; exact ⟨rfl, rfl⟩))
  (fun os started H enc _ => lifted os started H enc)
theorem proved : Rows.FnProgBelowSaid := over
#print axioms proved
end Go.Proofs.Ytmgdjmeoljepgaa.fnProgBelow
namespace Go.Proofs.Ytmgdjmeoljepgaa
theorem fnProgBelow_holds : Rows.FnProgBelowSaid := fnProgBelow.proved
end Go.Proofs.Ytmgdjmeoljepgaa
