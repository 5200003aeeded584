/- The law 'FnExactUpdateHas': for every input it returns true and leaves its arguments as they were (the row, out of the pure statement; no condition). -/
import Derived.Test.YtmphggpibaolcaaRows
import Derived.Test.YtmphggpibaolcaaZFnExactUpdateHasQFnExactUpdateHasx19
import Derived.Test.YtmphggpibaolcaaZFnExactUpdateHasPureFnExactUpdateHas
import Derived.Test.YtmphggpibaolcaaZFnExactUpdateHasOpen
import Derived.WalkKit
import Derived.ProofKit
import Derived.OpenShut
import Derived.ShutString
import Derived.ChangeOld
import Derived.Below
import Derived.SizedLaws
import Derived.Test.YtmphggpibaolcaaZFnExactUpdateHasWSized
namespace Go.Proofs.Ytmphggpibaolcaa.fnExactUpdateHas
open Go.ChangeShapes Go.WideShapes Go.ChangeAt Go.RowKit Go.Proofs.YtmphggpibaolcaaW.PrintWords Go.Proofs.Ytmphggpibaolcaa.Opens Go.Proofs.Ytmphggpibaolcaa.PFnExactUpdateHas Go.Proofs.Ytmphggpibaolcaa.Pure
set_option linter.unusedVariables false
theorem own : ownKnob Try.prog.godebug = none := by kernel_rfl
theorem laidOut : laidOutB Try.prog = true := by kernel_rfl
set_option maxRecDepth 100000 in
theorem op123 {H : Type} (enc : TypeId × Value → H) (w : World) : Opn enc Try.prog w 0 (fun _ => true) true 123 k123 G123 := op_iso (fun x : S123 => (x.f0, x.f1)) (fun x => ⟨x.1, x.2⟩) (fun _ => rfl) (op_struct Try.underlying123 (by kernel_rfl) (opf_cons rfl (by kernel_rfl) (op_int Try.underlying3) (opf_one rfl (by kernel_rfl) (op_int Try.underlying3))))
set_option maxRecDepth 100000 in
theorem op115 {H : Type} (enc : TypeId × Value → H) (w : World) : Opn enc Try.prog w 0 (fun _ => true) true 115 k115 G115 := op_iso (fun x : S115 => (x.f0, x.f1, x.f2)) (fun x => ⟨x.1, x.2.1, x.2.2⟩) (fun _ => rfl) (op_struct Try.underlying115 (by kernel_rfl) (opf_cons rfl (by kernel_rfl) (op_int Try.underlying3) (opf_cons rfl (by kernel_rfl) (op_int Try.underlying3) (opf_one rfl (by kernel_rfl) (op_string Try.underlying9)))))
set_option maxRecDepth 100000 in
theorem op86 {H : Type} (enc : TypeId × Value → H) (w : World) : Opn enc Try.prog w 0 (fun _ => true) true 86 k86 G86 := op_iso (fun x : S86 => (x.f0, x.f1)) (fun x => ⟨x.1, x.2⟩) (fun _ => rfl) (op_struct Try.underlying86 (by kernel_rfl) (opf_cons rfl (by kernel_rfl) (op_slice 123 Try.underlying42 (by kernel_rfl) (op123 enc w)) (opf_one rfl (by kernel_rfl) (op_slice 115 Try.underlying84 (by kernel_rfl) (op115 enc w)))))
set_option maxRecDepth 100000 in
theorem op117 {H : Type} (enc : TypeId × Value → H) (w : World) : Opn enc Try.prog w 0 (fun _ => true) true 117 k117 G117 := op_iso (fun x : S117 => (x.f0, x.f1, x.f2)) (fun x => ⟨x.1, x.2.1, x.2.2⟩) (fun _ => rfl) (op_struct Try.underlying117 (by kernel_rfl) (opf_cons rfl (by kernel_rfl) (op_int Try.underlying3) (opf_cons rfl (by kernel_rfl) (op_int Try.underlying3) (opf_one rfl (by kernel_rfl) (op115 enc w)))))
set_option maxRecDepth 100000 in
theorem op45 {H : Type} (enc : TypeId × Value → H) (w : World) : Opn enc Try.prog w 0 (fun _ => true) true 45 (Kd.pair (Kd.slice 123 k123) (Kd.pair (Kd.int .i64) (Kd.pair (Kd.slice 117 k117) (Kd.int .i64)))) G45 := op_struct Try.underlying45 (by kernel_rfl) (opf_cons rfl (by kernel_rfl) (op_slice 123 Try.underlying42 (by kernel_rfl) (op123 enc w)) (opf_cons rfl (by kernel_rfl) (op_int Try.underlying3) (opf_cons rfl (by kernel_rfl) (op_slice 117 Try.underlying43 (by kernel_rfl) (op117 enc w)) (opf_one rfl (by kernel_rfl) (op_int Try.underlying3)))))
set_option maxRecDepth 100000 in
theorem lifted (os : Os) (started : os.Started) (H : Type) (enc : TypeId × Value → H) :
  ReturnsInHanded {} Try.checked os 5 .any (Rows.fnExactUpdateHasSpec.pre6 enc Try.prog Try.f5 Rows.fnExactUpdateHasRow.domain false) (Rows.fnExactUpdateHasSpec.post enc Try.prog Try.f5 false true false false) := by
 refine returnsInHanded_of_change_sized (C := Try.checked) own started (by kernel_rfl) Try.func5
  (ChangeSpec.witness6 (enc := enc) (C := Try.checked) false ⟨#[], #[.slice none 0 0, .agg #[.slice none 0 0, .int .i64 0, .slice none 0 0, .int .i64 0]], []⟩ 8 (by kernel_rfl) (by kernel_rfl) (by kernel_rfl) (by kernel_rfl)) ?_
 intro W base args ds gs before hval0 hW hcnd hsz0 _
 have hval : ∀ (j : Nat) t v, Try.f5.params[j]? = some t → args[j]? = some v → Value.okWide Try.prog W .any base t v := hval0
 have hW' := hW
 obtain ⟨p, q, hA0, hV, rfl, hfz, hnd⟩ := hW
 have hA : DataW.TrodAll enc Try.prog W 0 (fun _ => true) true Try.f5.params.toList args.toList ds p := hA0
 rw [Try.params5] at hA hval
 obtain ⟨v0, vs0, d0, ds0, p0, q0, hargs, rfl, rfl, h0, r0⟩ := trodAll_cons hA
 obtain ⟨v1, vs1, d1, ds1, p1, q1, rfl, rfl, rfl, h1, r1⟩ := trodAll_cons r0
 obtain ⟨rfl, rfl, rfl⟩ := trodAll_nil r1
 obtain rfl : args = #[v0, v1] := by cases args; simp_all
 obtain ⟨rfl, rfl⟩ := trodVars_none hV
 have k0h := h0
 have lt0 : ∀ x ∈ p0, x.block < W.heap.size := by obtain ⟨m, hm⟩ := k0h; exact DataW.trod_lt m _ _ _ hm
 obtain ⟨A0, c0, l0, rfl, hc0, hr0, hm0, hg0⟩ := came_slice (w := W) Try.underlying22 (hval 0 22 v0 rfl rfl) (op_slice 86 Try.underlying22 (by kernel_rfl) (op86 enc W)) h0
 have k1h := h1
 have lt1 : ∀ x ∈ p1, x.block < W.heap.size := by obtain ⟨m, hm⟩ := k1h; exact DataW.trod_lt m _ _ _ hm
 obtain ⟨cs1, y1, rfl, hk1, hg1⟩ := came_struct Try.underlying45 (hval 1 45 v1 rfl rfl) (op45 enc W) h1
 obtain ⟨e1_0, t1_0, z1_0, u1_0, n1_0⟩ := hk1
 obtain ⟨A1_0, c1_0, s1_0, hc1_0, hr1_0⟩ := u1_0
 obtain ⟨e1_1, t1_1, z1_1, u1_1, n1_1⟩ := n1_0
 have s1_1 : _ = [Value.int .i64 y1.2.1] := u1_1
 obtain ⟨e1_2, t1_2, z1_2, u1_2, n1_2⟩ := n1_1
 obtain ⟨A1_2, c1_2, s1_2, hc1_2, hr1_2⟩ := u1_2
 have s1_3 : _ = [Value.int .i64 y1.2.2.2] := n1_2
 have E1 : cs1.toList = [.slice A1_0 y1.1.length c1_0, .int .i64 y1.2.1, .slice A1_2 y1.2.2.1.length c1_2, .int .i64 y1.2.2.2] := by rw [z1_0, s1_0, z1_1, s1_1, z1_2, s1_2, s1_3]; rfl
 obtain rfl : cs1 = #[.slice A1_0 y1.1.length c1_0, .int .i64 y1.2.1, .slice A1_2 y1.2.2.1.length c1_2, .int .i64 y1.2.2.2] := by cases cs1; simpa using E1
 clear hA0 hval0 hsz0
 obtain ⟨k, hP⟩ := Pure.FnExactUpdateHas l0 y1 hm0 hg0 hg1
 refine (laws_FnExactUpdateHas.calls k A0 c0 l0 A1_0 c1_0 y1.1 (y1.2.1) A1_2 c1_2 y1.2.2.1 (y1.2.2.2) true W hr0 hc0 hr1_0 hc1_0 hr1_2 hc1_2 hP).mono fun e W' hpost => ?_
 obtain ⟨he, bel⟩ : e = .returned (.bool true) ∧ Below W.heap.size W W' := by
  first
   | exact hpost
   | (obtain ⟨he, rfl⟩ := hpost; exact ⟨he, Below.refl _ _⟩)
   | (obtain ⟨he, n_, rfl⟩ := hpost; exact ⟨he, pw_below_drewN (Below.refl _ _) _⟩)
 subst he
 exact ⟨_, rfl, _, _, _, [], _, [], hW', trodAll_mk1 (shut_bool Try.underlying4 _), (trodAll_cons_mk (Below.trod laidOut (by kernel_rfl) (of_decide_eq_true (by kernel_rfl)) k0h bel lt0) (trodAll_cons_mk (Below.trod laidOut (by kernel_rfl) (of_decide_eq_true (by kernel_rfl)) k1h bel lt1) trodAll_mk0)), rfl, bel.frame _, fun h => by cases h⟩
theorem over : Rows.fnExactUpdateHasRow.holds Try.pinned (OpenSpec.ofChange Rows.fnExactUpdateHasSpec) :=
 OpenClaim.holds_of_wide 5 Try.f5 rfl rfl rfl rfl rfl rfl rfl ⟨rfl, rfl, rfl, rfl, rfl⟩ rfl rfl rfl rfl rfl (by kernel_rfl) Try.func5 (by kernel_rfl)
  (of_decide_eq_true (by kernel_rfl)) (by unfold Func.isWrapper; first | (rw [if_pos (by decide +kernel)]; kernel_rfl) | (rw [if_neg (by decide +kernel)]; exact ⟨rfl, rfl⟩))
  (fun os started H enc _ => lifted os started H enc)
theorem proved : Rows.FnExactUpdateHasSaid := over
#print axioms proved
end Go.Proofs.Ytmphggpibaolcaa.fnExactUpdateHas
namespace Go.Proofs.Ytmphggpibaolcaa
theorem fnExactUpdateHas_holds : Rows.FnExactUpdateHasSaid := fnExactUpdateHas.proved
end Go.Proofs.Ytmphggpibaolcaa
