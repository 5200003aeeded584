/- The law 'FnExactValDo': for every input it returns true and leaves its arguments as they were (the row, out of the pure statement; no condition). -/
import Derived.Test.YthbodcpgdllegaaDoorRows
import Derived.Test.YthbodcpgdllegaaDoorZFnExactValDoQFnExactValDox6
import Derived.Test.YthbodcpgdllegaaDoorZFnExactValDoPureFnExactValDo
import Derived.Test.YthbodcpgdllegaaDoorZFnExactValDoOpen
import Derived.Test.YthbodcpgdllegaaDoorZFnExactValDoItoa
import Derived.Test.YthbodcpgdllegaaDoorTie
import Derived.Test.YthbodcpgdllegaaDoorCards
import Derived.SevenTiedAt
import Derived.LaidMore
import Derived.Lib.LaidTab
import Derived.Stop.Joined
import Derived.Stop.LaidErr
import Derived.WalkKit
import Derived.ProofKit
import Derived.OpenShut
import Derived.ShutString
import Derived.ChangeOld
import Derived.Below
import Derived.SizedLaws
import Derived.Test.YthbodcpgdllegaaDoorZFnExactValDoWSized
namespace Go.Proofs.YthbodcpgdllegaaDoor.fnExactValDo
open Go.ChangeShapes Go.WideShapes Go.ChangeAt Go.RowKit Go.Proofs.YthbodcpgdllegaaDoorW.PrintWords Go.Proofs.YthbodcpgdllegaaDoor.Opens Go.Proofs.YthbodcpgdllegaaDoor.PFnExactValDo Go.Proofs.YthbodcpgdllegaaDoor.Pure
set_option linter.unusedVariables false
theorem own : ownKnob Tryd.prog.godebug = none := by kernel_rfl
theorem tab_of {W : World} (h : laidMetH Tryd.prog Rows.fnExactValDoRow.laid W) : TabOk W := by
 rw [MakeChecks.laidMetH_plain _ _ _ (by kernel_rfl)] at h
 have h1 : laidMet Tryd.prog [("math/bits.deBruijn32tab", Rows.laid_math_bits_deBruijn32tab), ("math/bits.deBruijn64tab", Rows.laid_math_bits_deBruijn64tab), ("internal/strconv.uint64pow10", Rows.laid_internal_strconv_uint64pow10)] W := h
 have h2 : laidMet Tryd.prog [("internal/strconv.uint64pow10", Lib.tabData .u64 Lib.pow10Tab)] W := laidMet.tail (laidMet.tail h1)
 exact Lib.tabBelow_of_tabIs (Lib.tabIs_of_head (g := 0) (t := 63) (e := 57) (n := 20) (by kernel_rfl) (by kernel_rfl) (by kernel_rfl) (by kernel_rfl) (by kernel_rfl) (by kernel_rfl) h2)
theorem door_met (os : Os) (args : Array Value) : laidMetH Tryd.prog Rows.fnExactValDoRow.laid ((World.doorLaid Tryd.prog 24 os).forCall (fun _ _ => 0) ⟨#[], args, []⟩).memory :=
 laidMetH_of_parts3 (fuel := 8) (laidMet_of_run' 8 (by kernel_rfl) (by kernel_rfl)) (by kernel_rfl) (by kernel_rfl)
theorem laidOut : laidOutB Tryd.prog = true := by kernel_rfl
set_option maxRecDepth 100000 in
theorem op23 {H : Type} (enc : TypeId × Value → H) (w : World) : Opn enc Tryd.prog w 0 (fun _ => true) true 23 (Kd.pair (Kd.int .i64) (Kd.pair (Kd.int .i64) Kd.string)) G23 := op_struct Tryd.underlying23 (by kernel_rfl) (opf_cons rfl (by kernel_rfl) (op_int Tryd.underlying3) (opf_cons rfl (by kernel_rfl) (op_int Tryd.underlying3) (opf_one rfl (by kernel_rfl) (op_string Tryd.underlying9))))
set_option maxRecDepth 100000 in
theorem lifted (os : Os) (started : os.Started) (H : Type) (enc : TypeId × Value → H) :
  ReturnsInHanded {} Tryd.checked os 7 .any (fun w args => (Rows.fnExactValDoSpec.pre enc Tryd.prog Tryd.f7 [] false w args ∧ laidMetH Tryd.prog Rows.fnExactValDoRow.laid w) ∧ sizedMet enc Tryd.prog Tryd.f7 (OpenSpec.ofChange Rows.fnExactValDoSpec) false w args) (Rows.fnExactValDoSpec.post enc Tryd.prog Tryd.f7 false true false false) := by
 refine returnsInHanded_of_change_and (C := Tryd.checked) (X := fun w _ => laidMetH Tryd.prog Rows.fnExactValDoRow.laid w) (fun _ _ _ hh h => h.of_heap hh) own started (by kernel_rfl) Tryd.func7
  (ChangeSpec.witness_shaped (enc := enc) (C := Tryd.checked) (os := os) (X := fun w _ => laidMetH Tryd.prog Rows.fnExactValDoRow.laid w) false (World.doorLaid Tryd.prog 24 os) #[.int .i64 0, .agg #[.int .i64 0, .int .i64 0, .string ⟨#[]⟩], .agg #[.int .i64 0, .int .i64 0, .string ⟨#[]⟩]] 8 rfl (World.shaped_of_RefB (by kernel_rfl) (by kernel_rfl)) (by kernel_rfl) (by kernel_rfl) (by kernel_rfl) (door_met os _)) ?_
 intro W base args ds gs before hval0 hW hcnd hsz0 hL _
 have hval : ∀ (j : Nat) t v, Tryd.f7.params[j]? = some t → args[j]? = some v → Value.okWide Tryd.prog W .any base t v := hval0
 have hW' := hW
 obtain ⟨p, q, hA0, hV, rfl, hfz, hnd⟩ := hW
 have hA : DataW.TrodAll enc Tryd.prog W 0 (fun _ => true) true Tryd.f7.params.toList args.toList ds p := hA0
 rw [Tryd.params7] at hA hval
 obtain ⟨v0, vs0, d0, ds0, p0, q0, hargs, rfl, rfl, h0, r0⟩ := trodAll_cons hA
 obtain ⟨v1, vs1, d1, ds1, p1, q1, rfl, rfl, rfl, h1, r1⟩ := trodAll_cons r0
 obtain ⟨v2, vs2, d2, ds2, p2, q2, rfl, rfl, rfl, h2, r2⟩ := trodAll_cons r1
 obtain ⟨rfl, rfl, rfl⟩ := trodAll_nil r2
 obtain rfl : args = #[v0, v1, v2] := by cases args; simp_all
 obtain ⟨rfl, rfl⟩ := trodVars_none hV
 have k0h := h0
 have lt0 : ∀ x ∈ p0, x.block < W.heap.size := by obtain ⟨m, hm⟩ := k0h; exact DataW.trod_lt m _ _ _ hm
 obtain ⟨a0, rfl, rfl, rfl, w0⟩ := open_int Tryd.underlying3 (hval 0 3 v0 rfl rfl) h0
 have k1h := h1
 have lt1 : ∀ x ∈ p1, x.block < W.heap.size := by obtain ⟨m, hm⟩ := k1h; exact DataW.trod_lt m _ _ _ hm
 obtain ⟨cs1, y1, rfl, hk1, hg1⟩ := came_struct Tryd.underlying23 (hval 1 23 v1 rfl rfl) (op23 enc W) h1
 obtain ⟨e1_0, t1_0, z1_0, u1_0, n1_0⟩ := hk1
 have s1_0 : _ = [Value.int .i64 y1.1] := u1_0
 obtain ⟨e1_1, t1_1, z1_1, u1_1, n1_1⟩ := n1_0
 have s1_1 : _ = [Value.int .i64 y1.2.1] := u1_1
 have s1_2 : _ = [Value.string y1.2.2] := n1_1
 have E1 : cs1.toList = [.int .i64 y1.1, .int .i64 y1.2.1, .string y1.2.2] := by rw [z1_0, s1_0, z1_1, s1_1, s1_2]; rfl
 obtain rfl : cs1 = #[.int .i64 y1.1, .int .i64 y1.2.1, .string y1.2.2] := by cases cs1; simpa using E1
 have k2h := h2
 have lt2 : ∀ x ∈ p2, x.block < W.heap.size := by obtain ⟨m, hm⟩ := k2h; exact DataW.trod_lt m _ _ _ hm
 obtain ⟨cs2, y2, rfl, hk2, hg2⟩ := came_struct Tryd.underlying23 (hval 2 23 v2 rfl rfl) (op23 enc W) h2
 obtain ⟨e2_0, t2_0, z2_0, u2_0, n2_0⟩ := hk2
 have s2_0 : _ = [Value.int .i64 y2.1] := u2_0
 obtain ⟨e2_1, t2_1, z2_1, u2_1, n2_1⟩ := n2_0
 have s2_1 : _ = [Value.int .i64 y2.2.1] := u2_1
 have s2_2 : _ = [Value.string y2.2.2] := n2_1
 have E2 : cs2.toList = [.int .i64 y2.1, .int .i64 y2.2.1, .string y2.2.2] := by rw [z2_0, s2_0, z2_1, s2_1, s2_2]; rfl
 obtain rfl : cs2 = #[.int .i64 y2.1, .int .i64 y2.2.1, .string y2.2.2] := by cases cs2; simpa using E2
 clear hA0 hval0 hsz0
 obtain ⟨k, hP⟩ := Pure.FnExactValDo a0 y1 y2 w0 hg1 hg2
 refine (laws_FnExactValDo.calls k a0 (y1.1) (y1.2.1) (y1.2.2) (y2.1) (y2.2.1) (y2.2.2) true W  hP (tab_of hL)).mono fun e W' hpost => ?_
 obtain ⟨he, bel⟩ : e = .returned (.bool true) ∧ Below W.heap.size W W' := by
  first
   | exact hpost
   | (obtain ⟨he, rfl⟩ := hpost; exact ⟨he, Below.refl _ _⟩)
   | (obtain ⟨he, n_, rfl⟩ := hpost; exact ⟨he, pw_below_drewN (Below.refl _ _) _⟩)
 subst he
 exact ⟨_, rfl, _, _, _, [], _, [], hW', trodAll_mk1 (shut_bool Tryd.underlying4 _), (trodAll_cons_mk (Below.trod laidOut (by kernel_rfl) (of_decide_eq_true (by kernel_rfl)) k0h bel lt0) (trodAll_cons_mk (Below.trod laidOut (by kernel_rfl) (of_decide_eq_true (by kernel_rfl)) k1h bel lt1) (trodAll_cons_mk (Below.trod laidOut (by kernel_rfl) (of_decide_eq_true (by kernel_rfl)) k2h bel lt2) trodAll_mk0))), rfl, bel.frame _, fun h => by cases h⟩
theorem over : Rows.fnExactValDoRow.holds Tryd.pinned (OpenSpec.ofChange Rows.fnExactValDoSpec) :=
 OpenClaim.holds_of_wide 7 Tryd.f7 rfl rfl rfl rfl rfl rfl rfl ⟨rfl, rfl, rfl, rfl, rfl⟩ rfl rfl rfl rfl rfl (by kernel_rfl) Tryd.func7 (by kernel_rfl)
  (of_decide_eq_true (by kernel_rfl)) (by unfold Func.isWrapper; first | (rw [if_pos (by decide +kernel)]; kernel_rfl) | (rw [if_neg (by decide +kernel)]; exact ⟨rfl, rfl⟩))
  (fun os started H enc _ => lifted os started H enc)
theorem proved : Rows.FnExactValDoSaid := over
theorem carded : Rows.FnExactValDoCardSaid :=
 Claim7.holds_tied_plain_at .later [] [.data, .data, .data] true (true, "ca047e5509c0a028a6e6e50087c4166ca7151bb4ab61444218dcb045bdd3f345") false
  proved (fun _ h => by cases h) (by kernel_rfl) (fun _ h => by cases h) fnExactValDo_row_tie rfl ⟨rfl, rfl⟩ (by kernel_rfl) rfl
  (fun f fn hf hfn => by
   obtain rfl : f = 7 := Option.some.inj ((show Tryd.prog.funcNamed "loop.example/drawnanew/laws.FnExactValDo" = some 7 by kernel_rfl).symm.trans hf) |>.symm
   obtain rfl : fn = Tryd.f7 := (Option.some.inj (Tryd.func7.symm.trans hfn)).symm
   exact ⟨by kernel_rfl, fun j t ht => by
    have hm : t ∈ Tryd.f7.params.toList := by simpa using Array.mem_of_getElem? ht
    have hall : (Tryd.f7.params.toList.all fun u => !Tryd.prog.wantsStandIn u) = true := by kernel_rfl
    exact (show Tryd.prog.wantsStandIn t = false by simpa using List.all_eq_true.1 hall t hm)⟩)
  (by kernel_rfl)
#print axioms carded
end Go.Proofs.YthbodcpgdllegaaDoor.fnExactValDo
namespace Go.Proofs.YthbodcpgdllegaaDoor
theorem fnExactValDo_holds : Rows.FnExactValDoCardSaid := fnExactValDo.carded
end Go.Proofs.YthbodcpgdllegaaDoor
