/- The law 'FnExactValShow': for every input it returns true and leaves its arguments as they were (the row, out of the pure statement; no condition). -/
import Derived.Test.YthbodcpgdllegaaDoorRows
import Derived.Test.YthbodcpgdllegaaDoorQFnExactValShowx2
import Derived.Test.YthbodcpgdllegaaDoorPureFnExactValShow
import Derived.Test.YthbodcpgdllegaaDoorOpen
import Derived.Test.YthbodcpgdllegaaDoorItoa
import Derived.Test.YthbodcpgdllegaaDoorTie
import Derived.Test.YthbodcpgdllegaaDoorCards
import Derived.SevenTiedAt
import Derived.LaidMore
import Derived.Lib.LaidTab
import Derived.Stop.Joined
import Derived.Stop.LaidErr
import Derived.WalkKit
import Derived.ProofKit
import Derived.OpenShut
import Derived.ShutString
import Derived.ChangeOld
import Derived.Below
import Derived.SizedLaws
import Derived.Test.YthbodcpgdllegaaDoorWSized
namespace Go.Proofs.YthbodcpgdllegaaDoor.fnExactValShow
open Go.ChangeShapes Go.WideShapes Go.ChangeAt Go.RowKit Go.Proofs.YthbodcpgdllegaaDoorW.PrintWords Go.Proofs.YthbodcpgdllegaaDoor.Opens Go.Proofs.YthbodcpgdllegaaDoor.PFnExactValShow Go.Proofs.YthbodcpgdllegaaDoor.Pure
set_option linter.unusedVariables false
theorem own : ownKnob Tryd.prog.godebug = none := by kernel_rfl
/-- What the row lists, as it is laid, gives the table that the walks ask for. -/
theorem tab_of {W : World} (h : laidMetH Tryd.prog Rows.fnExactValShowRow.laid W) : TabOk W := by
  rw [MakeChecks.laidMetH_plain _ _ _ (by kernel_rfl)] at h
  have h1 : laidMet Tryd.prog [("math/bits.deBruijn32tab", Rows.laid_math_bits_deBruijn32tab), ("math/bits.deBruijn64tab", Rows.laid_math_bits_deBruijn64tab), ("internal/strconv.uint64pow10", Rows.laid_internal_strconv_uint64pow10)] W := h
  have h2 : laidMet Tryd.prog [("internal/strconv.uint64pow10", Lib.tabData .u64 Lib.pow10Tab)] W := laidMet.tail (laidMet.tail h1)
  exact Lib.tabBelow_of_tabIs (Lib.tabIs_of_head (g := 0) (t := 63) (e := 57) (n := 20) (by kernel_rfl) (by kernel_rfl) (by kernel_rfl) (by kernel_rfl) (by kernel_rfl) (by kernel_rfl) h2)
/-- The state that the door's own run leaves meets the row's list. -/
theorem door_met (os : Os) (args : Array Value) : laidMetH Tryd.prog Rows.fnExactValShowRow.laid ((World.doorLaid Tryd.prog 24 os).forCall (fun _ _ => 0) ⟨#[], args, []⟩).memory :=
  laidMetH_of_parts3 (fuel := 8) (laidMet_of_run' 8 (by kernel_rfl) (by kernel_rfl)) (by kernel_rfl) (by kernel_rfl)
theorem laidOut : laidOutB Tryd.prog = true := by kernel_rfl
set_option maxRecDepth 100000 in
theorem op23 {H : Type} (enc : TypeId × Value → H) (w : World) : Opn enc Tryd.prog w 0 (fun _ => true) true 23 (Kd.pair (Kd.int .i64) (Kd.pair (Kd.int .i64) Kd.string)) G23 := op_struct Tryd.underlying23 (by kernel_rfl) (opf_cons rfl (by kernel_rfl) (op_int Tryd.underlying3) (opf_cons rfl (by kernel_rfl) (op_int Tryd.underlying3) (opf_one rfl (by kernel_rfl) (op_string Tryd.underlying9))))
set_option maxRecDepth 100000 in
theorem lifted (os : Os) (started : os.Started) (H : Type) (enc : TypeId × Value → H) :
    ReturnsInHanded {} Tryd.checked os 3 .any (fun w args => (Rows.fnExactValShowSpec.pre enc Tryd.prog Tryd.f3 [] false w args ∧ laidMetH Tryd.prog Rows.fnExactValShowRow.laid w) ∧ sizedMet enc Tryd.prog Tryd.f3 (OpenSpec.ofChange Rows.fnExactValShowSpec) false w args) (Rows.fnExactValShowSpec.post enc Tryd.prog Tryd.f3 false true false false) := by
  refine returnsInHanded_of_change_and (C := Tryd.checked) (X := fun w _ => laidMetH Tryd.prog Rows.fnExactValShowRow.laid w) (fun _ _ _ hh h => h.of_heap hh) own started (by kernel_rfl) Tryd.func3
    (ChangeSpec.witness_shaped (enc := enc) (C := Tryd.checked) (os := os) (X := fun w _ => laidMetH Tryd.prog Rows.fnExactValShowRow.laid w) false (World.doorLaid Tryd.prog 24 os) #[.agg #[.int .i64 0, .int .i64 0, .string ⟨#[]⟩]] 8 rfl (World.shaped_of_RefB (by kernel_rfl) (by kernel_rfl)) (by kernel_rfl) (by kernel_rfl) (by kernel_rfl) (door_met os _)) ?_
  intro W base args ds gs before hval0 hW hcnd hsz0 hL _
  have hval : ∀ (j : Nat) t v, Tryd.f3.params[j]? = some t → args[j]? = some v → Value.okWide Tryd.prog W .any base t v := hval0
  have hW' := hW
  obtain ⟨p, q, hA0, hV, rfl, hfz, hnd⟩ := hW
  have hA : DataW.TrodAll enc Tryd.prog W 0 (fun _ => true) true Tryd.f3.params.toList args.toList ds p := hA0
  rw [Tryd.params3] at hA hval
  obtain ⟨v0, vs0, d0, ds0, p0, q0, hargs, rfl, rfl, h0, r0⟩ := trodAll_cons hA
  obtain ⟨rfl, rfl, rfl⟩ := trodAll_nil r0
  obtain rfl : args = #[v0] := by cases args; simp_all
  obtain ⟨rfl, rfl⟩ := trodVars_none hV
  have k0h := h0
  have lt0 : ∀ x ∈ p0, x.block < W.heap.size := by obtain ⟨m, hm⟩ := k0h; exact DataW.trod_lt m _ _ _ hm
  obtain ⟨cs0, y0, rfl, hk0, hg0⟩ := came_struct Tryd.underlying23 (hval 0 23 v0 rfl rfl) (op23 enc W) h0
  obtain ⟨e0_0, t0_0, z0_0, u0_0, n0_0⟩ := hk0
  have s0_0 : _ = [Value.int .i64 y0.1] := u0_0
  obtain ⟨e0_1, t0_1, z0_1, u0_1, n0_1⟩ := n0_0
  have s0_1 : _ = [Value.int .i64 y0.2.1] := u0_1
  have s0_2 : _ = [Value.string y0.2.2] := n0_1
  have E0 : cs0.toList = [.int .i64 y0.1, .int .i64 y0.2.1, .string y0.2.2] := by rw [z0_0, s0_0, z0_1, s0_1, s0_2]; rfl
  obtain rfl : cs0 = #[.int .i64 y0.1, .int .i64 y0.2.1, .string y0.2.2] := by cases cs0; simpa using E0
  clear hA0 hval0 hsz0
  obtain ⟨k, hP⟩ := Pure.FnExactValShow y0 hg0
  refine (laws_FnExactValShow.calls k (y0.1) (y0.2.1) (y0.2.2) true W  hP (tab_of hL)).mono fun e W' hpost => ?_
  obtain ⟨he, bel⟩ : e = .returned (.bool true) ∧ Below W.heap.size W W' := by
    first
      | exact hpost
      | (obtain ⟨he, rfl⟩ := hpost; exact ⟨he, Below.refl _ _⟩)
      | (obtain ⟨he, n_, rfl⟩ := hpost; exact ⟨he, pw_below_drewN (Below.refl _ _) _⟩)
  subst he
  exact ⟨_, rfl, _, _, _, [], _, [], hW', trodAll_mk1 (shut_bool Tryd.underlying4 _), (trodAll_cons_mk (Below.trod laidOut (by kernel_rfl) (of_decide_eq_true (by kernel_rfl)) k0h bel lt0) trodAll_mk0), rfl, bel.frame _, fun h => by cases h⟩
theorem over : Rows.fnExactValShowRow.holds Tryd.pinned (OpenSpec.ofChange Rows.fnExactValShowSpec) :=
  OpenClaim.holds_of_wide 3 Tryd.f3 rfl rfl rfl rfl rfl rfl rfl ⟨rfl, rfl, rfl, rfl, rfl⟩ rfl rfl rfl rfl rfl (by kernel_rfl) Tryd.func3 (by kernel_rfl)
    (of_decide_eq_true (by kernel_rfl)) (by unfold Func.isWrapper; first | (rw [if_pos (by decide +kernel)]; kernel_rfl) | (rw [if_neg (by decide +kernel)]; exact ⟨rfl, rfl⟩))
    (fun os started H enc _ => lifted os started H enc)
theorem proved : Rows.FnExactValShowSaid := over
theorem carded : Rows.FnExactValShowCardSaid :=
  Claim7.holds_tied_plain_at .later [] [.data, .data, .data] true (true, "ca047e5509c0a028a6e6e50087c4166ca7151bb4ab61444218dcb045bdd3f345") false
    proved (fun _ h => by cases h) (by kernel_rfl) (fun _ h => by cases h) fnExactValShow_row_tie rfl ⟨rfl, rfl⟩ (by kernel_rfl) rfl
    (fun f fn hf hfn => by
      obtain rfl : f = 3 := Option.some.inj ((show Tryd.prog.funcNamed "loop.example/drawnanew/laws.FnExactValShow" = some 3 by kernel_rfl).symm.trans hf) |>.symm
      obtain rfl : fn = Tryd.f3 := (Option.some.inj (Tryd.func3.symm.trans hfn)).symm
      exact ⟨by kernel_rfl, fun j t ht => by
        have hm : t ∈ Tryd.f3.params.toList := by simpa using Array.mem_of_getElem? ht
        have hall : (Tryd.f3.params.toList.all fun u => !Tryd.prog.wantsStandIn u) = true := by kernel_rfl
        exact (show Tryd.prog.wantsStandIn t = false by simpa using List.all_eq_true.1 hall t hm)⟩)
    (by kernel_rfl)
#print axioms carded
end Go.Proofs.YthbodcpgdllegaaDoor.fnExactValShow
namespace Go.Proofs.YthbodcpgdllegaaDoor
/-- The row, under a short name, for the claim. -/
theorem fnExactValShow_holds : Rows.FnExactValShowCardSaid := fnExactValShow.carded
end Go.Proofs.YthbodcpgdllegaaDoor
