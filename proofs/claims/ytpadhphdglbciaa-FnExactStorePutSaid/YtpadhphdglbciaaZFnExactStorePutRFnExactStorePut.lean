/- The law 'FnExactStorePut': for every input it returns true and leaves its arguments as they were (the row, out of the pure statement; no condition). -/
import Derived.Test.YtpadhphdglbciaaRows
import Derived.Test.YtpadhphdglbciaaZFnExactStorePutQFnExactStorePutx15
import Derived.Test.YtpadhphdglbciaaZFnExactStorePutPureFnExactStorePut
import Derived.Test.YtpadhphdglbciaaZFnExactStorePutOpen
import Derived.WalkKit
import Derived.ProofKit
import Derived.OpenShut
import Derived.ShutString
import Derived.ChangeOld
import Derived.Below
import Derived.SizedLaws
import Derived.Test.YtpadhphdglbciaaZFnExactStorePutWSized
namespace Go.Proofs.Ytpadhphdglbciaa.fnExactStorePut
open Go.ChangeShapes Go.WideShapes Go.ChangeAt Go.RowKit Go.Proofs.YtpadhphdglbciaaW.PrintWords Go.Proofs.Ytpadhphdglbciaa.Opens Go.Proofs.Ytpadhphdglbciaa.PFnExactStorePut Go.Proofs.Ytpadhphdglbciaa.Pure
set_option linter.unusedVariables false
theorem own : ownKnob Try.prog.godebug = none := by kernel_rfl
theorem laidOut : laidOutB Try.prog = true := by kernel_rfl
set_option maxRecDepth 100000 in
theorem op94 {H : Type} (enc : TypeId × Value → H) (w : World) : Opn enc Try.prog w 0 (fun _ => true) true 94 k94 G94 := op_iso (fun x : S94 => (x.f0, x.f1)) (fun x => ⟨x.1, x.2⟩) (fun _ => rfl) (op_struct Try.underlying94 (by kernel_rfl) (opf_cons rfl (by kernel_rfl) (op_int Try.underlying3) (opf_one rfl (by kernel_rfl) (op_int Try.underlying3))))
set_option maxRecDepth 100000 in
theorem op105 {H : Type} (enc : TypeId × Value → H) (w : World) : Opn enc Try.prog w 0 (fun _ => true) true 105 k105 G105 := op_iso (fun x : S105 => (x.f0, x.f1, x.f2)) (fun x => ⟨x.1, x.2.1, x.2.2⟩) (fun _ => rfl) (op_struct Try.underlying105 (by kernel_rfl) (opf_cons rfl (by kernel_rfl) (op_int Try.underlying3) (opf_cons rfl (by kernel_rfl) (op_int Try.underlying3) (opf_one rfl (by kernel_rfl) (op_string Try.underlying9)))))
set_option maxRecDepth 100000 in
theorem op84 {H : Type} (enc : TypeId × Value → H) (w : World) : Opn enc Try.prog w 0 (fun _ => true) true 84 k84 G84 := op_iso (fun x : S84 => (x.f0, x.f1)) (fun x => ⟨x.1, x.2⟩) (fun _ => rfl) (op_struct Try.underlying84 (by kernel_rfl) (opf_cons rfl (by kernel_rfl) (op_slice 94 Try.underlying35 (by kernel_rfl) (op94 enc w)) (opf_one rfl (by kernel_rfl) (op_slice 105 Try.underlying53 (by kernel_rfl) (op105 enc w)))))
set_option maxRecDepth 100000 in
theorem lifted (os : Os) (started : os.Started) (H : Type) (enc : TypeId × Value → H) :
  ReturnsInHanded {} Try.checked os 6 .any (Rows.fnExactStorePutSpec.pre6 enc Try.prog Try.f6 Rows.fnExactStorePutRow.domain false) (Rows.fnExactStorePutSpec.post enc Try.prog Try.f6 false true false false) := by
 refine returnsInHanded_of_change_sized (C := Try.checked) own started (by kernel_rfl) Try.func6
  (ChangeSpec.witness6 (enc := enc) (C := Try.checked) false ⟨#[], #[.slice none 0 0, .slice none 0 0, .slice none 0 0], []⟩ 8 (by kernel_rfl) (by kernel_rfl) (by kernel_rfl) (by kernel_rfl)) ?_
 intro W base args ds gs before hval0 hW hcnd hsz0 _
 have hval : ∀ (j : Nat) t v, Try.f6.params[j]? = some t → args[j]? = some v → Value.okWide Try.prog W .any base t v := hval0
 have hW' := hW
 obtain ⟨p, q, hA0, hV, rfl, hfz, hnd⟩ := hW
 have hA : DataW.TrodAll enc Try.prog W 0 (fun _ => true) true Try.f6.params.toList args.toList ds p := hA0
 rw [Try.params6] at hA hval
 obtain ⟨v0, vs0, d0, ds0, p0, q0, hargs, rfl, rfl, h0, r0⟩ := trodAll_cons hA
 obtain ⟨v1, vs1, d1, ds1, p1, q1, rfl, rfl, rfl, h1, r1⟩ := trodAll_cons r0
 obtain ⟨v2, vs2, d2, ds2, p2, q2, rfl, rfl, rfl, h2, r2⟩ := trodAll_cons r1
 obtain ⟨rfl, rfl, rfl⟩ := trodAll_nil r2
 obtain rfl : args = #[v0, v1, v2] := by cases args; simp_all
 obtain ⟨rfl, rfl⟩ := trodVars_none hV
 have k0h := h0
 have lt0 : ∀ x ∈ p0, x.block < W.heap.size := by obtain ⟨m, hm⟩ := k0h; exact DataW.trod_lt m _ _ _ hm
 obtain ⟨A0, c0, l0, rfl, hc0, hr0, hm0, hg0⟩ := came_slice (w := W) Try.underlying34 (hval 0 34 v0 rfl rfl) (op_slice 84 Try.underlying34 (by kernel_rfl) (op84 enc W)) h0
 have k1h := h1
 have lt1 : ∀ x ∈ p1, x.block < W.heap.size := by obtain ⟨m, hm⟩ := k1h; exact DataW.trod_lt m _ _ _ hm
 obtain ⟨A1, c1, l1, rfl, hc1, hr1, hm1, hg1⟩ := came_slice (w := W) Try.underlying35 (hval 1 35 v1 rfl rfl) (op_slice 94 Try.underlying35 (by kernel_rfl) (op94 enc W)) h1
 have k2h := h2
 have lt2 : ∀ x ∈ p2, x.block < W.heap.size := by obtain ⟨m, hm⟩ := k2h; exact DataW.trod_lt m _ _ _ hm
 obtain ⟨A2, c2, l2, rfl, hc2, hr2, hm2, hg2⟩ := came_slice (w := W) Try.underlying53 (hval 2 53 v2 rfl rfl) (op_slice 105 Try.underlying53 (by kernel_rfl) (op105 enc W)) h2
 clear hA0 hval0 hsz0
 obtain ⟨k, hP⟩ := Pure.FnExactStorePut l0 l1 l2 hm0 hg0 hm1 hg1 hm2 hg2
 refine (laws_FnExactStorePut.calls k A0 c0 l0 A1 c1 l1 A2 c2 l2 true W hr0 hc0 hr1 hc1 hr2 hc2 hP).mono fun e W' hpost => ?_
 obtain ⟨he, bel⟩ : e = .returned (.bool true) ∧ Below W.heap.size W W' := by
  first
   | exact hpost
   | (obtain ⟨he, rfl⟩ := hpost; exact ⟨he, Below.refl _ _⟩)
   | (obtain ⟨he, n_, rfl⟩ := hpost; exact ⟨he, pw_below_drewN (Below.refl _ _) _⟩)
 subst he
 exact ⟨_, rfl, _, _, _, [], _, [], hW', trodAll_mk1 (shut_bool Try.underlying4 _), (trodAll_cons_mk (Below.trod laidOut (by kernel_rfl) (of_decide_eq_true (by kernel_rfl)) k0h bel lt0) (trodAll_cons_mk (Below.trod laidOut (by kernel_rfl) (of_decide_eq_true (by kernel_rfl)) k1h bel lt1) (trodAll_cons_mk (Below.trod laidOut (by kernel_rfl) (of_decide_eq_true (by kernel_rfl)) k2h bel lt2) trodAll_mk0))), rfl, bel.frame _, fun h => by cases h⟩
theorem over : Rows.fnExactStorePutRow.holds Try.pinned (OpenSpec.ofChange Rows.fnExactStorePutSpec) :=
 OpenClaim.holds_of_wide 6 Try.f6 rfl rfl rfl rfl rfl rfl rfl ⟨rfl, rfl, rfl, rfl, rfl⟩ rfl rfl rfl rfl rfl (by kernel_rfl) Try.func6 (by kernel_rfl)
  (of_decide_eq_true (by kernel_rfl)) (by unfold Func.isWrapper; first | (rw [if_pos (by decide +kernel)]; kernel_rfl) | (rw [if_neg (by decide +kernel)]; exact ⟨rfl, rfl⟩))
  (fun os started H enc _ => lifted os started H enc)
theorem proved : Rows.FnExactStorePutSaid := over
#print axioms proved
end Go.Proofs.Ytpadhphdglbciaa.fnExactStorePut
namespace Go.Proofs.Ytpadhphdglbciaa
theorem fnExactStorePut_holds : Rows.FnExactStorePutSaid := fnExactStorePut.proved
end Go.Proofs.Ytpadhphdglbciaa
