/- Go's impl.histStep, for the law 'FnHistRedo': what it takes of the rows that it is given, and what it hands back (no condition). -/
import Derived.Test.YtgbbcebjgpoioaaZFnHistRedoQFnHistRedox0
import Derived.Test.YtgbbcebjgpoioaaZFnHistRedoWMore
import Derived.Test.YtgbbcebjgpoioaaZFnHistRedoWNEv
import Derived.Test.YtgbbcebjgpoioaaZFnHistRedoWLast
import Derived.Test.YtgbbcebjgpoioaaZFnHistRedoWKept
import Derived.Test.YtgbbcebjgpoioaaZFnHistRedoWFootNe
namespace Go.Proofs.Ytgbbcebjgpoioaa.PFnHistRedo
open Go Go.RowKit Go.Proofs.YtgbbcebjgpoioaaW.PrintWords Go.Proofs.YtgbbcebjgpoioaaW.PrintLast Go.Proofs.YtgbbcebjgpoioaaW.PrintMore
attribute [local go_sem] max2_int min2_int max_two min_two max_three min_three max_four min_four
set_option linter.unusedVariables false
set_option linter.unusedSimpArgs false
theorem cut_max (t e : TypeId) (kh : IntKind) {P : Program} {i : TypeInfo} (ht : P.underlying t = some (.slice e)) (hi : P.info? e = some i) (A : Option Addr) (n c : Nat) (j : Int) (h0 : 0 ≤ j) (hm : j ≤ n) (hc : n ≤ c) :
  ∀ W : World, (Instr.slice t (.slice A n c) none (some (.int kh j)) (some (.int kh j))).run P W = .ok (.slice A j.toNat j.toNat) W := by
 intro W
 have hel : P.elem t = e := by simp [Program.elem, ht]
 have hu : P.underlying t = some (.slice (P.elem t)) := by rw [hel]; exact ht
 have ha : (A.map fun x => x.add 0) = A := by cases A <;> simp [Addr.add]
 rw [run_slice_hm W t A n c hu kh kh j j h0 (Int.le_refl j) (by omega), hel]
 simp [sizeOf, typeInfo, hi, sliced, Result.andThen, ha]
def impl_histStep.f (l0 : List (S72)) (l1 l2 : List (List (S72))) : Option (List (S72) × List (List (S72)) × List (List (S72))) :=
 if 0 ≤ (wrap64 ((l1.length : Int) - 1)) then (if (wrap64 ((l1.length : Int) - 1)) < (l1.length : Int) then (if l2.length < 5864062014805 then some (rd_L7 l1 (wrap64 ((l1.length : Int) - 1)), l1.take ((wrap64 ((l1.length : Int) - 1)) : Int).toNat, l2 ++ [l0]) else none) else none) else none
set_option maxHeartbeats 8000000 in
set_option maxRecDepth 100000 in
theorem impl_histStep.calls (okB okC : Nat → Prop) (A0 : Option Addr) (c0 : Nat) (l0 : List (S72)) (A1 : Option Addr) (c1 : Nat) (l1 : List (List (S72))) (A2 : Option Addr) (c2 : Nat) (l2 : List (List (S72))) (r1 : List (S72)) (r2 r3 : List (List (S72))) (w0 w : World) (hB : Below w0.heap.size w0 w) (h0 : Kd.V k72 72 w w0.heap.size (fun k => okC k ∧ some k ≠ (.slice A2 l2.length c2 : Value).ownBlock) (.slice A0 l0.length c0) l0) (h1 : Kd.V (Kd.slice 72 k72) 23 w w0.heap.size okB (.slice A1 l1.length c1) l1) (h2 : Kd.N (Kd.slice 72 k72) 23 w w0.heap.size okC (.slice A2 l2.length c2) l2) (hs : ∀ k, okB k → some k ≠ (.slice A2 l2.length c2 : Value).ownBlock) (hf : ∀ k, w.heap.size ≤ k → okC k) (h : impl_histStep.f l0 l1 l2 = some (r1, r2, r3)) :
  Calls Try.prog 29 #[.slice A0 l0.length c0, .slice A1 l1.length c1, .slice A2 l2.length c2] w fun e w' => ∃ v0_ v1_ v2_ : Value, e = .returned (.tuple #[v0_, v1_, v2_]) ∧ Kd.V k72 72 w' w0.heap.size (fun k => okB k ∧ some k ≠ v2_.ownBlock) v0_ r1 ∧ Kd.V (Kd.slice 72 k72) 23 w' w0.heap.size (fun k => okB k ∧ some k ≠ v2_.ownBlock) v1_ r2 ∧ Kd.N (Kd.slice 72 k72) 23 w' w0.heap.size okC v2_ r3 ∧ Below w0.heap.size w0 w' ∧ Kept w w' (fun k => some k = (.slice A2 l2.length c2 : Value).ownBlock) := by
 unfold impl_histStep.f at h
 obtain ⟨ji, hji⟩ : ∃ j_ : Int, (wrap64 ((l1.length : Int) - 1)) = j_ := ⟨_, rfl⟩; rw [hji] at h; have hjiw : (IntKind.i64.wrap ((l1.length : Int) - 1)) = ji := (i64_w _).trans hji
 by_cases e1 : 0 ≤ ji
 case neg => rw [if_neg e1] at h; exact absurd h (by simp)
 rw [if_pos e1] at h
 by_cases e2 : ji < (l1.length : Int)
 case neg => rw [if_neg e2] at h; exact absurd h (by simp)
 rw [if_pos e2] at h
 by_cases e3 : l2.length < 5864062014805
 case neg => rw [if_neg e3] at h; exact absurd h (by simp)
 rw [if_pos e3] at h; simp only [Option.some.injEq, Prod.mk.injEq] at h; obtain ⟨rfl, rfl, rfl⟩ := h; obtain ⟨_, hc1, hF⟩ := Kd.V_at h1; obtain ⟨ad, ce, eA, hcl, hK, hcc, _⟩ := Kd.F_get hF ([] : List (S72)) ji e1 e2; subst eA; obtain ⟨Ae, ae, rfl, hle, hFe⟩ := Kd.FK_slice_open hK
 have hx : w.cell? (ad.add ji.toNat) = some (.slice Ae (rd_L7 l1 ji).length ae) := by have h_ := hcc 0 _ rfl; rw [Nat.add_zero, show ((Kd.slice 72 k72)).sz = 1 from rfl, Nat.mul_one] at h_; exact h_
 have HE := Aside0.mk (show Kd.V k72 72 w w0.heap.size okB (.slice Ae (rd_L7 l1 ji).length ae) (rd_L7 l1 ji) from Kd.V_mk hle hFe); have HOK := Aside0.mk (show okB ad.block from Kd.F_in hF rfl (by omega) (show 0 < ((Kd.slice 72 k72)).sz from Nat.one_pos))
 have hm : ji.toNat ≤ l1.length := by omega
 have hyl : (l1.take ji.toNat).length = ji.toNat := by rw [List.length_take]; omega
 have HP := Aside0.mk (show Kd.V (Kd.slice 72 k72) 23 w w0.heap.size okB (.slice (some ad) (l1.take ji.toNat).length (l1.take ji.toNat).length) (l1.take ji.toNat) from Kd.V_mk (Nat.le_refl _) (Kd.F_take hF hm)); obtain ⟨i0, hi0, _, hsz, _⟩ := info_parts info23; have hcut := cut_max (P := Try.prog) 24 23 .i64 Try.underlying24 hi0 (some ad) l1.length c1 ji e1 (by omega) hc1; rw [← hyl] at hcut; generalize hy : l1.take ji.toNat = y at hcut HP hyl ⊢; have H0 := Aside0.mk h0; have H2 := Aside0.mk h2; have HB := Aside0.mk hB; have HS := Aside0.mk hs; have HF := Aside0.mk hf; have HX := Aside0.mk hx; clear h0 h1 h2 hB hs hf hF hK hcc hFe hle hi0 hsz hcl hc1 hm hx hyl hy; replace e1 : decide (0 ≤ ji) = true := decide_eq_true e1; have p1 : 0 ≤ ji := of_decide_eq_true e1; have p2 : ji < (l1.length : Int) := e2; replace p1 := eq_true p1; replace p2 := eq_true p2
 go_enter Try.func29, Try.ntmps29
 go_wp2
 refine start_ (n := 15) (S := fun w' => w'.cell? (ad.add ji.toNat) = some (.slice Ae (rd_L7 l1 ji).length ae)) (ds := []) #[false, false, false, false, false, false, false, false, false, false, false, false, false, false, false] (by kernel_rfl) rfl rfl HX.out (fun hHeld => ?_)
 have n0_ := Aside0.mk (Kd.V_drew HE.out); have n1_ := Aside0.mk (Kd.V_drew HP.out); have n2_ := Aside0.mk (Kd.V_drew H0.out); have n3_ := Aside0.mk (Kd.N_drew H2.out); have n4_ := Aside0.mk (below_drew1 HB.out); have n5_ := Aside0.mk (show Kept w w.drew (fun k => some k = (.slice A2 l2.length c2 : Value).ownBlock) from (Kept.refl w _).drew); have HF' := Aside0.mk (show ∀ k, w.drew.heap.size ≤ k → okC k from HF.out); clear HE HP H0 H2 HB HF HX; have HE := n0_; have HP := n1_; have H0 := n2_; have H2 := n3_; have HB := n4_; have HK := n5_; have HF := HF'; clear n0_ n1_ n2_ n3_ n4_ n5_ HF'; generalize w.drew = wd at HE HP H0 H2 HB HK HF hHeld ⊢; refine pure_ (i := 0) (N := some 13) (v := ?_) (a' := ?_) #[true, false, false, false, false, false, false, false, false, false, false, false, false, false, false] rfl rfl (by kernel_rfl) (fun _ _ _ h => h) (Or.inl ⟨by rfl, ?_⟩) ?_ ?_; rotate_left
 ·intro w'
  go_simp
  with_reducible rfl
 rotate_left
 ·simp only [Act.put, List.setIfInBounds_toArray, List.set_cons_zero, List.set_cons_succ, i64_w, i32_w]
  rfl
 refine pure_ (i := 1) (N := some 14) (v := ?_) (a' := ?_) #[true, true, false, false, false, false, false, false, false, false, false, false, false, false, false] rfl rfl (by kernel_rfl) (fun _ _ _ h => h) (Or.inl ⟨by rfl, ?_⟩) ?_ ?_; rotate_left
 ·intro w'
  go_simp
  with_reducible rfl
 rotate_left
 ·simp only [Act.put, List.setIfInBounds_toArray, List.set_cons_zero, List.set_cons_succ, i64_w, i32_w]
  rfl
 refine pure_ (i := 2) (N := some 15) (v := ?_) (a' := ?_) #[true, true, true, false, false, false, false, false, false, false, false, false, false, false, false] rfl rfl (by kernel_rfl) (fun _ _ _ h => h) (Or.inl ⟨by rfl, ?_⟩) ?_ ?_; rotate_left
 ·intro w'
  go_simp
  with_reducible rfl
 rotate_left
 ·simp only [Act.put, List.setIfInBounds_toArray, List.set_cons_zero, List.set_cons_succ, i64_w, i32_w]
  rfl
 refine pure_ (i := 4) (N := some 17) (v := ?_) (a' := ?_) #[true, true, true, false, true, false, false, false, false, false, false, false, false, false, false] rfl rfl (by kernel_rfl) (fun _ _ _ h => h) (Or.inl ⟨by rfl, ?_⟩) ?_ ?_; rotate_left
 ·intro w'
  go_simp
  with_reducible rfl
 rotate_left
 ·simp only [Act.put, List.setIfInBounds_toArray, List.set_cons_zero, List.set_cons_succ, i64_w, i32_w]
  rfl
 refine pure_ (i := 5) (N := some 18) (v := ?_) (a' := ?_) #[true, true, true, false, true, true, false, false, false, false, false, false, false, false, false] rfl rfl (by kernel_rfl) (fun _ _ _ h => h) (Or.inl ⟨by rfl, ?_⟩) ?_ ?_; rotate_left
 ·intro w'
  go_simp
  with_reducible rfl
 rotate_left
 ·simp only [Act.put, List.setIfInBounds_toArray, List.set_cons_zero, List.set_cons_succ, i64_w, i32_w]
  rfl
 refine pure_ (i := 6) (N := some 19) (v := ?_) (a' := ?_) #[true, true, true, false, true, true, true, false, false, false, false, false, false, false, false] rfl rfl (by kernel_rfl) (fun _ _ _ h => h) (Or.inl ⟨by rfl, ?_⟩) ?_ ?_; rotate_left
 ·intro w'
  go_simp
  with_reducible rfl
 rotate_left
 ·simp only [Act.put, List.setIfInBounds_toArray, List.set_cons_zero, List.set_cons_succ, i64_w, i32_w]
  rfl
 refine pure_ (i := 7) (N := some 20) (v := ?_) (a' := ?_) #[true, true, true, false, true, true, true, true, false, false, false, false, false, false, false] rfl rfl (by kernel_rfl) (fun _ _ _ h => h) (Or.inl ⟨by rfl, ?_⟩) ?_ ?_; rotate_left
 ·intro w'
  go_simp
  with_reducible rfl
 rotate_left
 ·simp only [Act.put, List.setIfInBounds_toArray, List.set_cons_zero, List.set_cons_succ, i64_w, i32_w]
  rfl
 refine pure_ (i := 8) (N := some 21) (v := ?_) (a' := ?_) #[true, true, true, false, true, true, true, true, true, false, false, false, false, false, false] rfl rfl (by kernel_rfl) (fun _ _ _ h => h) (Or.inl ⟨by rfl, ?_⟩) ?_ ?_; rotate_left
 ·intro w'
  go_simp
  with_reducible rfl
 rotate_left
 ·simp only [Act.put, List.setIfInBounds_toArray, List.set_cons_zero, List.set_cons_succ, i64_w, i32_w]
  rfl
 refine pure_ (i := 9) (N := some 22) (v := ?_) (a' := ?_) #[true, true, true, false, true, true, true, true, true, true, false, false, false, false, false] rfl rfl (by kernel_rfl) (fun _ _ _ h => h) (Or.inl ⟨by rfl, ?_⟩) ?_ ?_; rotate_left
 ·intro w'
  go_simp
  with_reducible rfl
 rotate_left
 ·simp only [Act.put, List.setIfInBounds_toArray, List.set_cons_zero, List.set_cons_succ, i64_w, i32_w]
  rfl
 refine take_ (i := 3) (N := some 16) (v := ?_) (a' := ?_) #[true, true, true, true, true, true, true, true, true, true, false, false, false, false, false] rfl rfl (by kernel_rfl) (fun _ _ _ h => h) (Or.inl ⟨by rfl, ?_⟩) hHeld ?_ ?_; rotate_left
 ·intro w' s0
  go_simp
  with_reducible rfl
 rotate_left
 ·simp only [Act.put, List.setIfInBounds_toArray, List.set_cons_zero, List.set_cons_succ, i64_w, i32_w]
  rfl
 have HH := Aside0.mk hHeld
 refine one_ (i := 10) (N := some 23) #[true, true, true, true, true, true, true, true, true, true, true, false, false, false, false] rfl rfl (by kernel_rfl) (by decide) (fun K hK => ?_)
 refine value_ (w1 := ?_) (v := ?_) (by rfl) rfl ?_ ?_
 rotate_left 2
 ·go_simp
  constructor
  ·rfl
  ·rfl
 have ha := World.block_lt_of_cell? wd _ hHeld
 refine hK.out _ _ ((below_alloc (Below.refl wd.heap.size wd) _).cell ha |>.trans hHeld) (fun hHeld => ?_)
 clear hK K ha
 refine norm_ (a' := ?_) ?_ ?_
 rotate_left
 ·show Act.put _ (some 23) _ = _
  simp only [Act.put, List.setIfInBounds_toArray, List.set_cons_zero, List.set_cons_succ, i64_w, i32_w]
  rfl
 refine one_ (i := 11) (N := some 24) #[true, true, true, true, true, true, true, true, true, true, true, true, false, false, false] rfl rfl (by kernel_rfl) (by decide) (fun K hK => ?_)
 refine Kd.N_append_step (Kd.slice 72 k72) (w0 := w0) w0.heap.size (by rfl) (.tmp 21) (.tmp 23) 24 23 (.slice none 0 0) 24 rfl Try.underlying24 info23 rfl (by decide) (by omega) (.slice A2 l2.length c2 : Value) l2 l0 [.slice A0 l0.length c0] okC (fun k => okC k ∧ some k ≠ (.slice A2 l2.length c2 : Value).ownBlock) rfl rfl ?aP (fun _ hk => hk) ?aF ?aO ?aB ?aS ?aL ?_
 (case aP => exact Kd.FK_slice_mk (Kd.V_at H0.out).2.1 (Kd.V_F H0.out))
 (case aB => exact HB.out)
 (case aF => exact HF.out)
 (case aO => exact H2.out)
 (case aS => exact below_size HB.out)
 (case aL => have := e3; omega)
 intro v1 w3 ho hb hg hat
 have n0_ := Aside0.mk (Kd.V_after (v1 := v1) (Kd.V_mono HE.out (fun k hk => (⟨hk, HS.out k hk⟩ : _ ∧ some k ≠ (.slice A2 l2.length c2 : Value).ownBlock))) hg hat); have n1_ := Aside0.mk (Kd.V_after (v1 := v1) (Kd.V_mono HP.out (fun k hk => (⟨hk, HS.out k hk⟩ : _ ∧ some k ≠ (.slice A2 l2.length c2 : Value).ownBlock))) hg hat); have n2_ := Aside0.mk ho; have n3_ := Aside0.mk hb; have n4_ := Aside0.mk (Kept.of_grown hg HK.out (fun k e_ => .inl e_.symm))
 refine hK.out _ _ ?_ (fun hHeld => ?_)
 ·exact hg.cell HH.out (by rw [add_block]; exact HS.out _ HOK.out)
 clear hK K ho hb hg hat HE HP H0 H2 HB HK HF HS HH
 refine norm_ (a' := ?_) ?_ ?_
 rotate_left
 ·show Act.put _ (some 24) _ = _
  simp only [Act.put, List.setIfInBounds_toArray, List.set_cons_zero, List.set_cons_succ, i64_w, i32_w]
  rfl
 refine pure_ (i := 12) (N := some 6) (v := ?_) (a' := ?_) #[true, true, true, true, true, true, true, true, true, true, true, true, true, false, false] rfl rfl (by kernel_rfl) (fun _ _ _ h => h) (Or.inl ⟨by rfl, ?_⟩) ?_ ?_; rotate_left
 ·intro w'
  go_simp
  with_reducible rfl
 rotate_left
 ·simp only [Act.put, List.setIfInBounds_toArray, List.set_cons_zero, List.set_cons_succ, i64_w, i32_w]
  rfl
 refine pure_ (i := 13) (N := some 7) (v := ?_) (a' := ?_) #[true, true, true, true, true, true, true, true, true, true, true, true, true, true, false] rfl rfl (by kernel_rfl) (fun _ _ _ h => h) (Or.inl ⟨by rfl, ?_⟩) ?_ ?_; rotate_left
 ·intro w'
  go_simp
  with_reducible rfl
 rotate_left
 ·simp only [Act.put, List.setIfInBounds_toArray, List.set_cons_zero, List.set_cons_succ, i64_w, i32_w]
  rfl
 refine pure_ (i := 14) (N := some 8) (v := ?_) (a' := ?_) #[true, true, true, true, true, true, true, true, true, true, true, true, true, true, true] rfl rfl (by kernel_rfl) (fun _ _ _ h => h) (Or.inl ⟨by rfl, ?_⟩) ?_ ?_; rotate_left
 ·intro w'
  go_simp
  with_reducible rfl
 rotate_left
 ·simp only [Act.put, List.setIfInBounds_toArray, List.set_cons_zero, List.set_cons_succ, i64_w, i32_w]
  rfl
 refine done_ (by kernel_rfl) ?_
 try go_wp2
 go_ret3
 exact ⟨_, _, _, rfl, n0_.out, n1_.out, n2_.out, n3_.out, n4_.out⟩
end Go.Proofs.Ytgbbcebjgpoioaa.PFnHistRedo
