/- The law 'FnExactHistRedo': for every input it returns true and leaves its arguments as they were (the row, out of the pure statement; no condition). -/
import Derived.Test.YtgbbcebjgpoioaaRows
import Derived.Test.YtgbbcebjgpoioaaZFnExactHistRedoQFnExactHistRedox18
import Derived.Test.YtgbbcebjgpoioaaZFnExactHistRedoPureFnExactHistRedo
import Derived.Test.YtgbbcebjgpoioaaZFnExactHistRedoOpen
import Derived.WalkKit
import Derived.ProofKit
import Derived.OpenShut
import Derived.ShutString
import Derived.ChangeOld
import Derived.Below
import Derived.SizedLaws
import Derived.Test.YtgbbcebjgpoioaaZFnExactHistRedoWSized
namespace Go.Proofs.Ytgbbcebjgpoioaa.fnExactHistRedo
open Go.ChangeShapes Go.WideShapes Go.ChangeAt Go.RowKit Go.Proofs.YtgbbcebjgpoioaaW.PrintWords Go.Proofs.Ytgbbcebjgpoioaa.Opens Go.Proofs.Ytgbbcebjgpoioaa.PFnExactHistRedo Go.Proofs.Ytgbbcebjgpoioaa.Pure
set_option linter.unusedVariables false
theorem own : ownKnob Try.prog.godebug = none := by kernel_rfl
theorem laidOut : laidOutB Try.prog = true := by kernel_rfl
set_option maxRecDepth 100000 in
theorem op127 {H : Type} (enc : TypeId × Value → H) (w : World) : Opn enc Try.prog w 0 (fun _ => true) true 127 k127 G127 := op_iso (fun x : S127 => (x.f0, x.f1)) (fun x => ⟨x.1, x.2⟩) (fun _ => rfl) (op_struct Try.underlying127 (by kernel_rfl) (opf_cons rfl (by kernel_rfl) (op_int Try.underlying3) (opf_one rfl (by kernel_rfl) (op_int Try.underlying3))))
set_option maxRecDepth 100000 in
theorem op125 {H : Type} (enc : TypeId × Value → H) (w : World) : Opn enc Try.prog w 0 (fun _ => true) true 125 k125 G125 := op_iso (fun x : S125 => (x.f0, x.f1, x.f2)) (fun x => ⟨x.1, x.2.1, x.2.2⟩) (fun _ => rfl) (op_struct Try.underlying125 (by kernel_rfl) (opf_cons rfl (by kernel_rfl) (op_int Try.underlying3) (opf_cons rfl (by kernel_rfl) (op_int Try.underlying3) (opf_one rfl (by kernel_rfl) (op_string Try.underlying9)))))
set_option maxRecDepth 100000 in
theorem op89 {H : Type} (enc : TypeId × Value → H) (w : World) : Opn enc Try.prog w 0 (fun _ => true) true 89 k89 G89 := op_iso (fun x : S89 => (x.f0, x.f1)) (fun x => ⟨x.1, x.2⟩) (fun _ => rfl) (op_struct Try.underlying89 (by kernel_rfl) (opf_cons rfl (by kernel_rfl) (op_slice 127 Try.underlying86 (by kernel_rfl) (op127 enc w)) (opf_one rfl (by kernel_rfl) (op_slice 125 Try.underlying87 (by kernel_rfl) (op125 enc w)))))
set_option maxRecDepth 100000 in
theorem op36 {H : Type} (enc : TypeId × Value → H) (w : World) : Opn enc Try.prog w 0 (fun _ => true) true 36 (Kd.pair (Kd.slice 89 k89) (Kd.pair (Kd.slice 33 (Kd.slice 89 k89)) (Kd.slice 33 (Kd.slice 89 k89)))) G36 := op_struct Try.underlying36 (by kernel_rfl) (opf_cons rfl (by kernel_rfl) (op_slice 89 Try.underlying33 (by kernel_rfl) (op89 enc w)) (opf_cons rfl (by kernel_rfl) (op_slice 33 Try.underlying34 (by kernel_rfl) (op_slice 89 Try.underlying33 (by kernel_rfl) (op89 enc w))) (opf_one rfl (by kernel_rfl) (op_slice 33 Try.underlying34 (by kernel_rfl) (op_slice 89 Try.underlying33 (by kernel_rfl) (op89 enc w))))))
set_option maxRecDepth 100000 in
theorem lifted (os : Os) (started : os.Started) (H : Type) (enc : TypeId × Value → H) :
  ReturnsInHanded {} Try.checked os 4 .any (Rows.fnExactHistRedoSpec.pre6 enc Try.prog Try.f4 Rows.fnExactHistRedoRow.domain false) (Rows.fnExactHistRedoSpec.post enc Try.prog Try.f4 false true false false) := by
 refine returnsInHanded_of_change_sized (C := Try.checked) own started (by kernel_rfl) Try.func4
  (ChangeSpec.witness6 (enc := enc) (C := Try.checked) false ⟨#[], #[.agg #[.slice none 0 0, .slice none 0 0, .slice none 0 0]], []⟩ 8 (by kernel_rfl) (by kernel_rfl) (by kernel_rfl) (by kernel_rfl)) ?_
 intro W base args ds gs before hval0 hW hcnd hsz0 _
 have hval : ∀ (j : Nat) t v, Try.f4.params[j]? = some t → args[j]? = some v → Value.okWide Try.prog W .any base t v := hval0; have hW' := hW; obtain ⟨p, q, hA0, hV, rfl, hfz, hnd⟩ := hW; have hA : DataW.TrodAll enc Try.prog W 0 (fun _ => true) true Try.f4.params.toList args.toList ds p := hA0; rw [Try.params4] at hA hval; obtain ⟨v0, vs0, d0, ds0, p0, q0, hargs, rfl, rfl, h0, r0⟩ := trodAll_cons hA; obtain ⟨rfl, rfl, rfl⟩ := trodAll_nil r0
 obtain rfl : args = #[v0] := by cases args; simp_all
 obtain ⟨rfl, rfl⟩ := trodVars_none hV; have k0h := h0
 have lt0 : ∀ x ∈ p0, x.block < W.heap.size := by obtain ⟨m, hm⟩ := k0h; exact DataW.trod_lt m _ _ _ hm
 obtain ⟨cs0, y0, rfl, hk0, hg0⟩ := came_struct Try.underlying36 (hval 0 36 v0 rfl rfl) (op36 enc W) h0; obtain ⟨e0_0, t0_0, z0_0, u0_0, n0_0⟩ := hk0; obtain ⟨A0_0, c0_0, s0_0, hc0_0, hr0_0⟩ := u0_0; obtain ⟨e0_1, t0_1, z0_1, u0_1, n0_1⟩ := n0_0; obtain ⟨A0_1, c0_1, s0_1, hc0_1, hr0_1⟩ := u0_1; obtain ⟨A0_2, c0_2, s0_2, hc0_2, hr0_2⟩ := n0_1
 have E0 : cs0.toList = [.slice A0_0 y0.1.length c0_0, .slice A0_1 y0.2.1.length c0_1, .slice A0_2 y0.2.2.length c0_2] := by rw [z0_0, s0_0, z0_1, s0_1, s0_2]; rfl
 obtain rfl : cs0 = #[.slice A0_0 y0.1.length c0_0, .slice A0_1 y0.2.1.length c0_1, .slice A0_2 y0.2.2.length c0_2] := by cases cs0; simpa using E0
 clear hA0 hval0 hsz0; obtain ⟨k, hP⟩ := Pure.FnExactHistRedo y0 hg0
 refine (laws_FnExactHistRedo.calls k A0_0 c0_0 y0.1 A0_1 c0_1 y0.2.1 A0_2 c0_2 y0.2.2 true W hr0_0 hc0_0 hr0_1 hc0_1 hr0_2 hc0_2 hP).mono fun e W' hpost => ?_
 obtain ⟨he, bel⟩ : e = .returned (.bool true) ∧ Below W.heap.size W W' := by
  first
   | exact hpost
   | (obtain ⟨he, rfl⟩ := hpost; exact ⟨he, Below.refl _ _⟩)
   | (obtain ⟨he, n_, rfl⟩ := hpost; exact ⟨he, pw_below_drewN (Below.refl _ _) _⟩)
 subst he
 exact ⟨_, rfl, _, _, _, [], _, [], hW', trodAll_mk1 (shut_bool Try.underlying4 _), (trodAll_cons_mk (Below.trod laidOut (by kernel_rfl) (of_decide_eq_true (by kernel_rfl)) k0h bel lt0) trodAll_mk0), rfl, bel.frame _, fun h => by cases h⟩
theorem over : Rows.fnExactHistRedoRow.holds Try.pinned (OpenSpec.ofChange Rows.fnExactHistRedoSpec) :=
 OpenClaim.holds_of_wide 4 Try.f4 rfl rfl rfl rfl rfl rfl rfl ⟨rfl, rfl, rfl, rfl, rfl⟩ rfl rfl rfl rfl rfl (by kernel_rfl) Try.func4 (by kernel_rfl)
  (of_decide_eq_true (by kernel_rfl)) (by unfold Func.isWrapper; first | (rw [if_pos (by decide +kernel)]; kernel_rfl) | (rw [if_neg (by decide +kernel)]; exact ⟨rfl, rfl⟩))
  (fun os started H enc _ => lifted os started H enc)
theorem proved : Rows.FnExactHistRedoSaid := over
#print axioms proved
end Go.Proofs.Ytgbbcebjgpoioaa.fnExactHistRedo
namespace Go.Proofs.Ytgbbcebjgpoioaa
theorem fnExactHistRedo_holds : Rows.FnExactHistRedoSaid := fnExactHistRedo.proved
end Go.Proofs.Ytgbbcebjgpoioaa
