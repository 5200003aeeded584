/- Walks (lines of the print; no condition). -/
import Derived.Test.YtgbbcebjgpoioaaZFnHistRedoQFnHistRedox12
namespace Go.Proofs.Ytgbbcebjgpoioaa.PFnHistRedo
open Go.RowKit Go.Proofs.YtgbbcebjgpoioaaW.PrintWords Go.Proofs.YtgbbcebjgpoioaaW.PrintLast Go.Proofs.YtgbbcebjgpoioaaW.PrintMore
attribute [local go_sem] max2_int min2_int max_two min_two max_three min_three max_four min_four
set_option linter.unusedVariables false
set_option linter.unusedSimpArgs false
def spec_copyHist.f (k : Nat) (aA : List (S72)) (aB : List (List (S72))) (aC : List (List (S72))) : Option ((List (S72)) × (List (List (S72))) × (List (List (S72)))) := (spec_copyStore.f k aA).bind fun aD => ((spec_copyStores.f k aB).bind fun aE => ((spec_copyStores.f k aC).bind fun aF => (some (aD, aE, aF))))
def spec_copyHist.T1 : Bool × List (List Nat × List Nat) := (true, [([], []), ([0], [0]), ([1], [1]), ([], []), ([3], [3]), ([4, 2], [4]), ([], []), ([6], [6]), ([7, 5], [7]), ([2, 5, 8], [2, 5, 8]), ([9, 8, 0, 1, 2, 3, 4, 5, 6, 7, 8, 9], [9])])
def spec_copyHist.B1 : List Nat := [0, 1, 3, 0, 8, 31, 0, 64, 255, 511, 1023]
theorem spec_copyHist.tab1 : rtab .any (opsOf Try.f55 1) = spec_copyHist.T1 := by kernel_rfl
theorem spec_copyHist.bits1 : waitsOk spec_copyHist.T1.2 spec_copyHist.B1 = true := by kernel_rfl
set_option maxHeartbeats 8000000 in
set_option maxRecDepth 100000 in
theorem spec_copyHist.calls (k : Nat) (aN : Option Addr) (aO : Nat) (aI : List (S72)) (aP : Option Addr) (aQ : Nat) (aJ : List (List (S72))) (aR : Option Addr) (aS : Nat) (aK : List (List (S72))) (r1 : List (S72)) (r2 : List (List (S72))) (r3 : List (List (S72))) (w : World) (aT : Kd.C k72 w aN aI.length aI) (aU : aI.length ≤ aO) (aV : Kd.C (Kd.slice 72 k72) w aP aJ.length aJ) (aW : aJ.length ≤ aQ) (aX : Kd.C (Kd.slice 72 k72) w aR aK.length aK) (aY : aK.length ≤ aS) (h : spec_copyHist.f k aI aJ aK = some (r1, r2, r3)) :
  Calls Try.prog 55 #[.agg #[.slice aN aI.length aO, .slice aP aJ.length aQ, .slice aR aK.length aS]] w fun e w' => ∃ bJ bQ bR : Value, e = .returned (.agg #[bJ, bQ, bR]) ∧ Kd.S k72 72 w' w.heap.size (fun _ => True) bJ r1 ∧ Kd.R (Kd.slice 72 k72) 23 w' w.heap.size (fun k_ => some k_ ≠ (bJ : Value).ownBlock ∧ some k_ ≠ (bR : Value).ownBlock) bQ r2 ∧ Kd.R (Kd.slice 72 k72) 23 w' w.heap.size (fun k_ => some k_ ≠ (bJ : Value).ownBlock ∧ some k_ ≠ (bQ : Value).ownBlock) bR r3 ∧ Below w.heap.size w w' := by
 have b7 := Try.underlying26; have a2 := A_ aT; have a3 := A_ aU; clear aT aU; have a4 := A_ aV; have a5 := A_ aW; clear aV aW; have a6 := A_ aX; have a7 := A_ aY; clear aX aY; have HB := A_ (Below.refl w.heap.size w); have H := h; unfold spec_copyHist.f at H; clear h; replace H := bS H; obtain ⟨a8, b0, H⟩ := H
 try dsimp only at H
 have A2 := A_ b0; clear b0; replace H := bS H; obtain ⟨a9, b1, H⟩ := H
 try dsimp only at H
 have A3 := A_ b1; clear b1; replace H := bS H; obtain ⟨bA, b2, H⟩ := H
 try dsimp only at H
 have A4 := A_ b2; clear b2; simp only [Option.some.injEq, Prod.mk.injEq] at H; obtain ⟨rfl, rfl, rfl⟩ := H
 go_enter Try.func55, Try.ntmps55
 try go_wp2_with (first | ((with_reducible refine gate_dst (N := 1) rfl ?_); refine be (cs := #[.slice aN aI.length aO, .slice aP aJ.length aQ, .slice aR aK.length aS]) (t := 26) ?_; intro aL hg w5 hbox hb; have aB := A_ hbox; have bB := A_ (gl hg (bz Z2)); have aD := bB; replace HB := A_ (bst Z2 hb); clear hb hbox hg) | ((with_reducible refine gate_dst (N := 2) rfl ?_); refine be (cs := #[.slice none 0 0, .slice none 0 0, .slice none 0 0]) (t := 26) ?_; intro aH hg w6 hbox hb; have aC := A_ hbox; have bC := A_ (gl hg (bz (Z3 aD.out))); have aG := bC; replace HB := A_ (bst (Z3 aD.out) hb); have aA := A_ ((by rw [hg]; exact nl (blk_lt (Z0 aB.out)) : aL ≠ aH)); have aE := A_ ((by rw [hg]; exact Nat.ne_of_gt (blk_lt (Z0 aB.out)) : aH ≠ aL)); replace aB := A_ (bb (Z0 aB.out) hb); clear hb hbox hg))
 replace aB := A_ (blk_drew aB.out); replace aC := A_ (blk_drew aC.out); replace HB := A_ (below_drew1 HB.out)
 refine start_ (n := 11) (S := fun w' => w'.cell? ⟨aL, 0, none⟩ = some (.slice aN aI.length aO) ∧ w'.cell? ⟨aL, 1, none⟩ = some (.slice aP aJ.length aQ) ∧ w'.cell? ⟨aL, 2, none⟩ = some (.slice aR aK.length aS)) (ds := []) M67 (by kernel_rfl) rfl rfl ⟨(bc aB.out 0).trans rfl, (bc aB.out 1).trans rfl, (bc aB.out 2).trans rfl⟩ (fun hHeld => ?_); refine with_tabW spec_copyHist.tab1 spec_copyHist.bits1 (fun HT_ HW_ => ?_)
 generalize w6.drew = w7 at aB aC HB hHeld ⊢; refine pU 0 3 M68 ?_; refine pU 3 6 #[T,F,F,T,F,F,F,F,F,F,F] ?_; refine pU 6 9 #[T,F,F,T,F,F,T,F,F,F,F] ?_; refine tU 1 4 #[T,T,F,T,F,F,T,F,F,F,F] ?_ (y := Z87); refine tU 4 7 #[T,T,F,T,T,F,T,F,F,F,F] ?_ (y := Z87); refine tU 7 10 #[T,T,F,T,T,F,T,T,F,F,F] ?_ (y := Z87)
 refine oU 2 (some 5) #[T,T,T,T,T,F,T,T,F,F,F] (fun K hK => ?_)
 refine goes_ Try.func30 (by kernel_rfl) rfl #[.slice aN aI.length aO] (by rfl) rfl rfl Z23 ?_
 with_reducible refine (spec_copyStore.calls k _ _ aI a8 _ ?s1 ?s2 A2.out).mono ?_
 (case s1 => exact Z5 a2.out)
 (case s2 => exact a3.out)
 rintro e w8 ⟨b8, rfl, ho0, hb⟩
 refine ⟨_, rfl, ?_⟩
 have aF := A_ (Kd.S_lower ho0 (bz (Z4 aD.out aG.out))); replace aB := A_ (bb (Z0 aB.out) hb); replace aC := A_ (bb (Z0 aC.out) hb); replace HB := A_ (bst (Z4 aD.out aG.out) hb); (try clear hb); (try clear b3); (try clear hk); (try clear hi); (try clear ho0)
 refine hK.out _ _ ⟨(bc aB.out 0).trans rfl, (bc aB.out 1).trans rfl, (bc aB.out 2).trans rfl⟩ (fun hHeld => ?_)
 clear hK K
 refine norm_ (a' := ?_) ?_ ?_
 rotate_left
 ·show Act.put _ (some 5) _ = _
  simp only [Act.put, List.setIfInBounds_toArray, List.set_cons_zero, List.set_cons_succ, i64_w, i32_w]
  rfl
 refine oU 5 (some 8) M69 (fun K hK => ?_)
 refine goes_ Try.func31 (by kernel_rfl) rfl #[.slice aP aJ.length aQ] (by rfl) rfl rfl Z23 ?_
 with_reducible refine (spec_copyStores.calls k _ _ aJ a9 _ ?s1 ?s2 A3.out).mono ?_
 (case s1 => exact Z5 a4.out)
 (case s2 => exact a5.out)
 rintro e w9 ⟨b9, rfl, ho0, hb⟩
 refine ⟨_, rfl, ?_⟩
 have aM := A_ (Kd.R_lower (Kd.R_new' ho0 (Kd.S_lt (Z29 aF.out))) (bz (Z4 aD.out aG.out))); replace aF := A_ (Kd.S_below (Z29 aF.out) hb); replace aB := A_ (bb (Z0 aB.out) hb); replace aC := A_ (bb (Z0 aC.out) hb); replace HB := A_ (bst (Z4 aD.out aG.out) hb); (try clear hb); (try clear b3); (try clear hk); (try clear hi); (try clear ho0)
 refine hK.out _ _ ⟨(bc aB.out 0).trans rfl, (bc aB.out 1).trans rfl, (bc aB.out 2).trans rfl⟩ (fun hHeld => ?_)
 clear hK K
 refine norm_ (a' := ?_) ?_ ?_
 rotate_left
 ·show Act.put _ (some 8) _ = _
  simp only [Act.put, List.setIfInBounds_toArray, List.set_cons_zero, List.set_cons_succ, i64_w, i32_w]
  rfl
 refine oU 8 (some 11) M70 (fun K hK => ?_)
 refine goes_ Try.func31 (by kernel_rfl) rfl #[.slice aR aK.length aS] (by rfl) rfl rfl Z23 ?_
 with_reducible refine (spec_copyStores.calls k _ _ aK bA _ ?s1 ?s2 A4.out).mono ?_
 (case s1 => exact Z5 a6.out)
 (case s2 => exact a7.out)
 rintro e bT ⟨cA, rfl, ho0, hb⟩
 refine ⟨_, rfl, ?_⟩
 have aZ := A_ (Kd.R_lower (Kd.R_new' (Kd.R_new' ho0 (Kd.S_lt (Z29 aF.out))) (Kd.R_lt (Z12 aM.out))) (bz (Z4 aD.out aG.out))); replace aF := A_ (Kd.S_below (Z29 aF.out) hb); replace aM := A_ (Kd.R_elder' (Z12 aM.out) (Kd.R_base ho0) hb); replace aB := A_ (bb (Z0 aB.out) hb); replace aC := A_ (bb (Z0 aC.out) hb); replace HB := A_ (bst (Z4 aD.out aG.out) hb); (try clear hb); (try clear b3); (try clear hk); (try clear hi); (try clear ho0); obtain ⟨bU, bV, bD⟩ := Kd.R_slice aZ.out; (first | subst bD | (injection bD with a0 bE a1; have bF := a0.symm; have bG := a1.symm; clear a0 bE a1; subst bF; subst bG)); obtain ⟨bW, bX, bH⟩ := Kd.R_slice aM.out; (first | subst bH | (injection bH with a0 bE a1; have bF := a0.symm; have bG := a1.symm; clear a0 bE a1; subst bF; subst bG)); obtain ⟨bY, bZ, bI⟩ := Kd.S_slice aF.out; (first | subst bI | (injection bI with a0 bE a1; have bF := a0.symm; have bG := a1.symm; clear a0 bE a1; subst bF; subst bG))
 refine hK.out _ _ ⟨(bc aB.out 0).trans rfl, (bc aB.out 1).trans rfl, (bc aB.out 2).trans rfl⟩ (fun hHeld => ?_)
 clear hK K
 refine norm_ (a' := ?_) ?_ ?_
 rotate_left
 ·show Act.put _ (some 11) _ = _
  simp only [Act.put, List.setIfInBounds_toArray, List.set_cons_zero, List.set_cons_succ, i64_w, i32_w]
  rfl
 refine pU 9 12 M71 ?_
 refine oU 10 none M72 (fun K hK => ?_)
 have cB : bT.cell? ⟨aH, 0, none⟩ = some (.slice none 0 0) := (bc aC.out 0).trans rfl; have b4 := blk_frozen aC.out 0; have bK := aA.out; have bL := aE.out; have cC : bT.cell? ⟨aH, 1, none⟩ = some (.slice none 0 0) := (bc aC.out 1).trans rfl; have b5 := blk_frozen aC.out 1; have bM := aA.out; have bN := aE.out; have cD : bT.cell? ⟨aH, 2, none⟩ = some (.slice none 0 0) := (bc aC.out 2).trans rfl; have b6 := blk_frozen aC.out 2; have bO := aA.out; have bP := aE.out
 refine skip_ (w1 := ?_) (by rfl) rfl ?_ ?_
 rotate_left
 ·go_simp
  rfl
 refine hK.out _ _ ⟨(cf aA.out (cf aA.out (cf aA.out hHeld.1))), (cf aA.out (cf aA.out (cf aA.out hHeld.2.1))), (cf aA.out (cf aA.out (cf aA.out hHeld.2.2)))⟩ (fun hHeld => ?_)
 clear hK K
 refine done_ (done_of HT_.out (by kernel_rfl)) ?_
 try go_wp2
 refine bodyPost_ret (results_cell_row rfl _ _ aH 26 #[.slice bY a8.length bZ, .slice bW a9.length bX, .slice bU bA.length bV] (0, 0) _ rfl (bp0 aC.out) Try.underlying26 rfl (by kernel_rfl)) rfl ?_
 exact ⟨_, _, _, Z11, Z56 aF.out aC.out, Z66 aM.out aC.out, Z66 aZ.out aC.out, Z4 aD.out aG.out⟩
end Go.Proofs.Ytgbbcebjgpoioaa.PFnHistRedo
