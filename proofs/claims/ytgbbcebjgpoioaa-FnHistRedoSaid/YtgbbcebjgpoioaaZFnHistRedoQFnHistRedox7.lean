/- Walks (lines of the print; no condition). -/
import Derived.Test.YtgbbcebjgpoioaaZFnHistRedoHSFnHistRedo
import Derived.Test.YtgbbcebjgpoioaaZFnHistRedoQFnHistRedox6
namespace Go.Proofs.Ytgbbcebjgpoioaa.PFnHistRedo
open Go.RowKit Go.Proofs.YtgbbcebjgpoioaaW.PrintWords Go.Proofs.YtgbbcebjgpoioaaW.PrintLast Go.Proofs.YtgbbcebjgpoioaaW.PrintMore
attribute [local go_sem] max2_int min2_int max_two min_two max_three min_three max_four min_four
set_option linter.unusedVariables false
set_option linter.unusedSimpArgs false
set_option maxHeartbeats 8000000
set_option maxRecDepth 100000
attribute [local go_sem high] eqA96
def impl_histCopy.f (k : Nat) (aA : List (S72)) (aB : List (List (S72))) (aC : List (List (S72))) : Option ((List (S72)) × (List (List (S72))) × (List (List (S72)))) := (impl_storeCopy.f k aA).bind fun aD => ((impl_storesCopy.f k aB).bind fun aE => ((impl_storesCopy.f k aC).bind fun aF => (some (aD, aE, aF))))
def impl_histCopy.T1 : Bool × List (List Nat × List Nat) := (true, [([], []), ([0], [0]), ([1], [1]), ([], []), ([3], [3]), ([4, 2], [4]), ([], []), ([6], [6]), ([7, 5], [7]), ([2, 5, 8], [2, 5, 8]), ([9, 8, 0, 1, 2, 3, 4, 5, 6, 7, 8, 9], [9])])
def impl_histCopy.B1 : List Nat := [0, 1, 3, 0, 8, 31, 0, 64, 255, 511, 1023]
theorem impl_histCopy.tab1 : rtab .any (opsOf Try.f28 1) = impl_histCopy.T1 := by kernel_rfl
theorem impl_histCopy.bits1 : waitsOk impl_histCopy.T1.2 impl_histCopy.B1 = true := by kernel_rfl
theorem impl_histCopy.calls (k : Nat) (aN : Option Addr) (aO : Nat) (aI : List (S72)) (aP : Option Addr) (aQ : Nat) (aJ : List (List (S72))) (aR : Option Addr) (aS : Nat) (aK : List (List (S72))) (r1 : List (S72)) (r2 : List (List (S72))) (r3 : List (List (S72))) (w : World) (aT : Kd.C k72 w aN aI.length aI) (aU : aI.length ≤ aO) (aV : Kd.C (Kd.slice 72 k72) w aP aJ.length aJ) (aW : aJ.length ≤ aQ) (aX : Kd.C (Kd.slice 72 k72) w aR aK.length aK) (aY : aK.length ≤ aS) (h : impl_histCopy.f k aI aJ aK = some (r1, r2, r3)) :
  Calls Try.prog 28 #[.agg #[.slice aN aI.length aO, .slice aP aJ.length aQ, .slice aR aK.length aS]] w fun e w' => ∃ bJ bQ bR : Value, e = .returned (.agg #[bJ, bQ, bR]) ∧ Kd.S k72 72 w' w.heap.size (fun _ => True) bJ r1 ∧ Kd.R (Kd.slice 72 k72) 23 w' w.heap.size (fun k_ => some k_ ≠ (bJ : Value).ownBlock ∧ some k_ ≠ (bR : Value).ownBlock) bQ r2 ∧ Kd.R (Kd.slice 72 k72) 23 w' w.heap.size (fun k_ => some k_ ≠ (bJ : Value).ownBlock ∧ some k_ ≠ (bQ : Value).ownBlock) bR r3 ∧ Below w.heap.size w w' := by
 have b7 := Try.underlying26; have a2 := A_ aT; have a3 := A_ aU; clear aT aU; have a4 := A_ aV; have a5 := A_ aW; clear aV aW; have a6 := A_ aX; have a7 := A_ aY; clear aX aY; have HB := A_ (Below.refl w.heap.size w); have H := h; unfold impl_histCopy.f at H; clear h; replace H := bS H; obtain ⟨a8, b0, H⟩ := H
 try dsimp only at H
 have A2 := A_ b0; clear b0; replace H := bS H; obtain ⟨a9, b1, H⟩ := H
 try dsimp only at H
 have A3 := A_ b1; clear b1; replace H := bS H; obtain ⟨bA, b2, H⟩ := H
 try dsimp only at H
 have A4 := A_ b2; clear b2; simp only [Option.some.injEq, Prod.mk.injEq] at H; obtain ⟨rfl, rfl, rfl⟩ := H
 go_enter Try.func28, Try.ntmps28
 try go_wp2_with (first | ((with_reducible refine gate_dst (N := 1) rfl ?_); refine be (cs := #[.slice aN aI.length aO, .slice aP aJ.length aQ, .slice aR aK.length aS]) (t := 26) ?_; intro aL hg w5 hbox hb; have aB := A_ hbox; have bB := A_ (gl hg (bz Z2)); have aD := bB; replace HB := A_ (bst Z2 hb); clear hb hbox hg) | ((with_reducible refine gate_dst (N := 2) rfl ?_); refine be (cs := #[.slice none 0 0, .slice none 0 0, .slice none 0 0]) (t := 26) ?_; intro aH hg w6 hbox hb; have aC := A_ hbox; have bC := A_ (gl hg (bz (Z3 aD.out))); have aG := bC; replace HB := A_ (bst (Z3 aD.out) hb); have aA := A_ ((by rw [hg]; exact nl (blk_lt (Z0 aB.out)) : aL ≠ aH)); have aE := A_ ((by rw [hg]; exact Nat.ne_of_gt (blk_lt (Z0 aB.out)) : aH ≠ aL)); replace aB := A_ (bb (Z0 aB.out) hb); clear hb hbox hg))
 replace aB := A_ (blk_drew aB.out); replace aC := A_ (blk_drew aC.out); replace HB := A_ (below_drew1 HB.out)
 refine start_ (n := 11) (S := fun w' => w'.cell? ⟨aL, 0, none⟩ = some (.slice aN aI.length aO) ∧ w'.cell? ⟨aL, 1, none⟩ = some (.slice aP aJ.length aQ) ∧ w'.cell? ⟨aL, 2, none⟩ = some (.slice aR aK.length aS)) (ds := []) M67 (by kernel_rfl) rfl rfl ⟨(bc aB.out 0).trans rfl, (bc aB.out 1).trans rfl, (bc aB.out 2).trans rfl⟩ (fun hHeld => ?_); refine with_tabW impl_histCopy.tab1 impl_histCopy.bits1 (fun HT_ HW_ => ?_)
 generalize w6.drew = w7 at aB aC HB hHeld ⊢; refine pU 0 3 M68 ?_; refine pU 3 6 #[T,F,F,T,F,F,F,F,F,F,F] ?_; refine pU 6 9 #[T,F,F,T,F,F,T,F,F,F,F] ?_; refine tU 1 4 #[T,T,F,T,F,F,T,F,F,F,F] ?_ (y := Z87); refine tU 4 7 #[T,T,F,T,T,F,T,F,F,F,F] ?_ (y := Z87); refine tU 7 10 #[T,T,F,T,T,F,T,T,F,F,F] ?_ (y := Z87)
 refine oU 2 (some 5) #[T,T,T,T,T,F,T,T,F,F,F] (fun K hK => ?_)
 refine goes_ Try.func56 (by kernel_rfl) rfl #[.slice aN aI.length aO] (by rfl) rfl rfl Z23 ?_
 with_reducible refine (impl_storeCopy.calls k _ _ aI a8 _ ?s1 ?s2 A2.out).mono ?_
 (case s1 => exact Z5 a2.out)
 (case s2 => exact a3.out)
 rintro e w8 ⟨b8, rfl, ho0, hb⟩
 refine ⟨_, rfl, ?_⟩
 have aF := A_ (Kd.S_lower ho0 (bz (Z4 aD.out aG.out))); replace aB := A_ (bb (Z0 aB.out) hb); replace aC := A_ (bb (Z0 aC.out) hb); replace HB := A_ (bst (Z4 aD.out aG.out) hb); (try clear hb); (try clear b3); (try clear hk); (try clear hi); (try clear ho0)
 refine hK.out _ _ ⟨(bc aB.out 0).trans rfl, (bc aB.out 1).trans rfl, (bc aB.out 2).trans rfl⟩ (fun hHeld => ?_)
 clear hK K
 refine norm_ (a' := ?_) ?_ ?_
 rotate_left
 ·show Act.put _ (some 5) _ = _
  simp only [Act.put, List.setIfInBounds_toArray, List.set_cons_zero, List.set_cons_succ, i64_w, i32_w]
  rfl
 refine oU 5 (some 8) M69 (fun K hK => ?_)
 refine goes_ Try.func57 (by kernel_rfl) rfl #[.slice aP aJ.length aQ] (by rfl) rfl rfl Z23 ?_
 with_reducible refine (impl_storesCopy.calls k _ _ aJ a9 _ ?s1 ?s2 A3.out).mono ?_
 (case s1 => exact Z5 a4.out)
 (case s2 => exact a5.out)
 rintro e w9 ⟨b9, rfl, ho0, hb⟩
 refine ⟨_, rfl, ?_⟩
 have aM := A_ (Kd.R_lower (Kd.R_new' ho0 (Kd.S_lt (Z29 aF.out))) (bz (Z4 aD.out aG.out))); replace aF := A_ (Kd.S_below (Z29 aF.out) hb); replace aB := A_ (bb (Z0 aB.out) hb); replace aC := A_ (bb (Z0 aC.out) hb); replace HB := A_ (bst (Z4 aD.out aG.out) hb); (try clear hb); (try clear b3); (try clear hk); (try clear hi); (try clear ho0)
 refine hK.out _ _ ⟨(bc aB.out 0).trans rfl, (bc aB.out 1).trans rfl, (bc aB.out 2).trans rfl⟩ (fun hHeld => ?_)
 clear hK K
 refine norm_ (a' := ?_) ?_ ?_
 rotate_left
 ·show Act.put _ (some 8) _ = _
  simp only [Act.put, List.setIfInBounds_toArray, List.set_cons_zero, List.set_cons_succ, i64_w, i32_w]
  rfl
 refine oU 8 (some 11) M70 (fun K hK => ?_)
 refine goes_ Try.func57 (by kernel_rfl) rfl #[.slice aR aK.length aS] (by rfl) rfl rfl Z23 ?_
 with_reducible refine (impl_storesCopy.calls k _ _ aK bA _ ?s1 ?s2 A4.out).mono ?_
 (case s1 => exact Z5 a6.out)
 (case s2 => exact a7.out)
 rintro e bT ⟨cA, rfl, ho0, hb⟩
 refine ⟨_, rfl, ?_⟩
 have aZ := A_ (Kd.R_lower (Kd.R_new' (Kd.R_new' ho0 (Kd.S_lt (Z29 aF.out))) (Kd.R_lt (Z12 aM.out))) (bz (Z4 aD.out aG.out))); replace aF := A_ (Kd.S_below (Z29 aF.out) hb); replace aM := A_ (Kd.R_elder' (Z12 aM.out) (Kd.R_base ho0) hb); replace aB := A_ (bb (Z0 aB.out) hb); replace aC := A_ (bb (Z0 aC.out) hb); replace HB := A_ (bst (Z4 aD.out aG.out) hb); (try clear hb); (try clear b3); (try clear hk); (try clear hi); (try clear ho0); obtain ⟨bU, bV, bD⟩ := Kd.R_slice aZ.out; (first | subst bD | (injection bD with a0 bE a1; have bF := a0.symm; have bG := a1.symm; clear a0 bE a1; subst bF; subst bG)); obtain ⟨bW, bX, bH⟩ := Kd.R_slice aM.out; (first | subst bH | (injection bH with a0 bE a1; have bF := a0.symm; have bG := a1.symm; clear a0 bE a1; subst bF; subst bG)); obtain ⟨bY, bZ, bI⟩ := Kd.S_slice aF.out; (first | subst bI | (injection bI with a0 bE a1; have bF := a0.symm; have bG := a1.symm; clear a0 bE a1; subst bF; subst bG))
 refine hK.out _ _ ⟨(bc aB.out 0).trans rfl, (bc aB.out 1).trans rfl, (bc aB.out 2).trans rfl⟩ (fun hHeld => ?_)
 clear hK K
 refine norm_ (a' := ?_) ?_ ?_
 rotate_left
 ·show Act.put _ (some 11) _ = _
  simp only [Act.put, List.setIfInBounds_toArray, List.set_cons_zero, List.set_cons_succ, i64_w, i32_w]
  rfl
 refine pU 9 12 M71 ?_
 refine oU 10 none M72 (fun K hK => ?_)
 have cB : bT.cell? ⟨aH, 0, none⟩ = some (.slice none 0 0) := (bc aC.out 0).trans rfl; have b4 := blk_frozen aC.out 0; have bK := aA.out; have bL := aE.out; have cC : bT.cell? ⟨aH, 1, none⟩ = some (.slice none 0 0) := (bc aC.out 1).trans rfl; have b5 := blk_frozen aC.out 1; have bM := aA.out; have bN := aE.out; have cD : bT.cell? ⟨aH, 2, none⟩ = some (.slice none 0 0) := (bc aC.out 2).trans rfl; have b6 := blk_frozen aC.out 2; have bO := aA.out; have bP := aE.out
 refine skip_ (w1 := ?_) (by rfl) rfl ?_ ?_
 rotate_left
 ·go_simp
  rfl
 refine hK.out _ _ ⟨(cf aA.out (cf aA.out (cf aA.out hHeld.1))), (cf aA.out (cf aA.out (cf aA.out hHeld.2.1))), (cf aA.out (cf aA.out (cf aA.out hHeld.2.2)))⟩ (fun hHeld => ?_)
 clear hK K
 refine done_ (done_of HT_.out (by kernel_rfl)) ?_
 try go_wp2
 refine bodyPost_ret (results_cell_row rfl _ _ aH 26 #[.slice bY a8.length bZ, .slice bW a9.length bX, .slice bU bA.length bV] (0, 0) _ rfl (bp0 aC.out) Try.underlying26 rfl (by kernel_rfl)) rfl ?_
 exact ⟨_, _, _, Z11, Z56 aF.out aC.out, Z66 aM.out aC.out, Z66 aZ.out aC.out, Z4 aD.out aG.out⟩
def impl_HistUndo.j0 : Nat → Bool → List (S72) → List (List (S72)) → List (List (S72)) → Option ((List (S72)) × (List (List (S72))) × (List (List (S72))) × Bool)
 | 0, _, _, _, _ => none
 | k + 1, aF, aC, aD, aE => if aF = true then (some (([] : List (S72)), ([] : List (List (S72))), ([] : List (List (S72))), false)) else ((impl_histCopy.f k aC aD aE).bind fun aA => ((impl_histStep.f aA.1 aA.2.1 aA.2.2).bind fun aB => (some (aB.1, aB.2.1, aB.2.2, true))))
def impl_HistUndo.f (k : Nat) (aB : List (S72)) (aA : List (List (S72))) (aC : List (List (S72))) : Option ((List (S72)) × (List (List (S72))) × (List (List (S72))) × Bool) := (impl_HistOk.f k aB aA aC).bind fun aD => (if aD = true then (impl_HistUndo.j0 k ((aA.length : Int) == 0) aB aA aC) else (impl_HistUndo.j0 k true aB aA aC))
theorem impl_HistUndo.calls (k : Nat) (aZ : Option Addr) (a0 : Nat) (aO : List (S72)) (a1 : Option Addr) (a2 : Nat) (aL : List (List (S72))) (a3 : Option Addr) (a4 : Nat) (aP : List (List (S72))) (r1 : List (S72)) (r2 : List (List (S72))) (r3 : List (List (S72))) (r4 : Bool) (w : World) (bK : Kd.C k72 w aZ aO.length aO) (bL : aO.length ≤ a0) (bM : Kd.C (Kd.slice 72 k72) w a1 aL.length aL) (bN : aL.length ≤ a2) (bO : Kd.C (Kd.slice 72 k72) w a3 aP.length aP) (bP : aP.length ≤ a4) (h : impl_HistUndo.f k aO aL aP = some (r1, r2, r3, r4)) :
  Calls Try.prog 8 #[.agg #[.slice aZ aO.length a0, .slice a1 aL.length a2, .slice a3 aP.length a4]] w fun e w' => ∃ eK eL cB : Value, e = .returned (.tuple #[.agg #[eK, eL, cB], .bool r4]) ∧ Kd.V k72 72 w' w.heap.size (fun k_ => (w.heap.size ≤ k_) ∧ some k_ ≠ (cB : Value).ownBlock) eK r1 ∧ Kd.V (Kd.slice 72 k72) 23 w' w.heap.size (fun k_ => (w.heap.size ≤ k_) ∧ some k_ ≠ (cB : Value).ownBlock) eL r2 ∧ Kd.N (Kd.slice 72 k72) 23 w' w.heap.size (fun k_ => (w.heap.size ≤ k_)) cB r3 ∧ Below w.heap.size w w' := by
 have e3 := Try.underlying26; have bE := A_ bK; have bF := A_ bL; clear bK bL; have bG := A_ bM; have bH := A_ bN; clear bM bN; have bI := A_ bO; have bJ := A_ bP; clear bO bP; have HB := A_ (Below.refl w.heap.size w); have H := h; unfold impl_HistUndo.f at H; clear h; have dZ := A_ H; clear H
 go_enter Try.func8, Try.ntmps8
 go_upto_region 1 with (first | ((with_reducible refine gate_dst (N := 1) rfl ?_); (try (refine gate_guard (by rfl) ?_; dsimp only)); refine be (cs := #[.slice aZ aO.length a0, .slice a1 aL.length a2, .slice a3 aP.length a4]) (t := 26) ?_; intro aE hg w3 hbox hb; have aA := A_ hbox; have bV := A_ (gl hg (bz Z2)); have GE170 := bV; replace HB := A_ (bst Z2 hb); clear hb hbox hg) | ((with_reducible refine gate_dst (N := 2) rfl ?_); (try (refine gate_guard (by rfl) ?_; dsimp only)); refine be (cs := #[.slice none 0 0, .slice none 0 0, .slice none 0 0]) (t := 26) ?_; intro aD hg w4 hbox hb; have aB := A_ hbox; have bW := A_ (gl hg (bz (Z3 GE170.out))); have GE171 := bW; replace HB := A_ (bst (Z3 GE170.out) hb); have aJ := A_ ((by rw [hg]; exact nl (blk_lt (Z0 aA.out)) : aE ≠ aD)); have aK := A_ ((by rw [hg]; exact Nat.ne_of_gt (blk_lt (Z0 aA.out)) : aD ≠ aE)); replace aA := A_ (bb (Z0 aA.out) hb); clear hb hbox hg))
 (try simp only [Act.put, List.setIfInBounds_toArray, List.set_cons_zero, List.set_cons_succ])
 go_cut [13] (fun e4 wc => ∃ (kq : Nat) (a9 : Bool), e4 = .bool a9 ∧ Aside0 (impl_HistUndo.j0 kq a9 aO aL aP = some (r1, r2, r3, r4)) ∧ Aside0 (kq ≤ k) ∧ Aside0 (wc.heap[aE]? = some (.cells #[(.slice aZ aO.length a0), (.slice a1 aL.length a2), (.slice a3 aP.length a4)] 26 (0, 0))) ∧ Aside0 (wc.heap[aD]? = some (.cells #[(.slice none 0 0), (.slice none 0 0), (.slice none 0 0)] 26 (0, 0))) ∧ Aside0 (Below w.heap.size w wc))
 case first =>
  have H := dZ.out; clear dZ; replace H := bS H; obtain ⟨d0, eM, H⟩ := H
  try dsimp only at H
  have A5 := A_ eM; clear eM
  by_cases c6 : d0 = true
  ·subst c6
   rw [if_pos rfl] at H; have H' := A_ H; clear H; have e5 := aJ.out; have e6 := aK.out; obtain ⟨d1, d2, d3, d4, d5, d6⟩ := C3 aA.out
   go_wp2_with (first | ((with_reducible refine gate_callee (f := 12) rfl ?_); refine gL 6 Try.func12 #[.agg #[.slice aZ aO.length a0, .slice a1 aL.length a2, .slice a3 aP.length a4]] ?_; (with_reducible refine (impl_HistOk.calls k _ _ aO _ _ aL _ _ aP true _ ?s1 bF.out ?s3 bH.out ?s5 bJ.out A5.out).mono ?_); (case s1 => exact Z5 bE.out); (case s3 => exact Z5 bG.out); (case s5 => exact Z5 bI.out); rintro e w9 ⟨rfl, hb⟩; refine ⟨_, rfl, ?_⟩; replace aA := A_ (bb (Z0 aA.out) hb); replace aB := A_ (bb (Z0 aB.out) hb); replace HB := A_ (bst (Z4 GE170.out GE171.out) hb); (try clear hb); obtain ⟨cC, cD, cE, cF, cG, cH⟩ := C3 aA.out))
   go_meet
   case rel => exact ⟨_, (((aL.length : Int) == 0)), Z26, H', ⟨Z85⟩, ⟨Z0 aA.out⟩, ⟨Z0 aB.out⟩, ⟨Z4 GE170.out GE171.out⟩⟩
  ·replace c6 := Bool.eq_false_iff.mpr c6
   subst c6; rw [if_neg (show ¬ (false = true) by decide)] at H; have H' := A_ H; clear H; have eN := aJ.out; have eO := aK.out; obtain ⟨cI, cJ, cK, cL, cM, cN⟩ := C3 aA.out
   go_wp2_with (first | ((with_reducible refine gate_callee (f := 12) rfl ?_); refine gL 6 Try.func12 #[.agg #[.slice aZ aO.length a0, .slice a1 aL.length a2, .slice a3 aP.length a4]] ?_; (with_reducible refine (impl_HistOk.calls k _ _ aO _ _ aL _ _ aP false _ ?s1 bF.out ?s3 bH.out ?s5 bJ.out A5.out).mono ?_); (case s1 => exact Z5 bE.out); (case s3 => exact Z5 bG.out); (case s5 => exact Z5 bI.out); rintro e fD ⟨rfl, hb⟩; refine ⟨_, rfl, ?_⟩; replace aA := A_ (bb (Z0 aA.out) hb); replace aB := A_ (bb (Z0 aB.out) hb); replace HB := A_ (bst (Z4 GE170.out GE171.out) hb); (try clear hb)))
   go_meet
   case rel => exact ⟨_, (true), Z26, H', ⟨Z85⟩, ⟨Z0 aA.out⟩, ⟨Z0 aB.out⟩, ⟨Z4 GE170.out GE171.out⟩⟩
 case rest =>
  clear dZ; try clear c6
  obtain ⟨kq, a9, rfl, HA, fE, aA, aB, HB⟩ := hcut
  cases kq with
  | zero => exact absurd HA.out (by simp [impl_HistUndo.j0])
  | succ e7 =>
   have H := HA.out; clear HA; simp only [impl_HistUndo.j0] at H
   by_cases cO : a9 = true
   ·subst cO
    rw [if_pos rfl] at H; simp only [Option.some.injEq, Prod.mk.injEq] at H; obtain ⟨rfl, rfl, rfl, rfl⟩ := H; have eP := aK.out; have eQ := aJ.out; obtain ⟨cP, cQ, cR, cS, cT, cU⟩ := C3 aB.out
    go_wp2
    refine bodyPost_ret (results_ct rfl _ _ aD 26 #[.slice none 0 0, .slice none 0 0, .slice none 0 0] (0, 0) _ rfl (bp0 aB.out) Try.underlying26 rfl (by kernel_rfl)) rfl ?_
    exact ⟨_, _, _, Z11, (Kd.V_nil _ _ _ _ _), (Kd.V_nil _ _ _ _ _), Z44, Z4 GE170.out GE171.out⟩
   ·replace cO := Bool.eq_false_iff.mpr cO
    subst cO; rw [if_neg (show ¬ (false = true) by decide)] at H; replace H := bS H; obtain ⟨⟨aV, aY, aW⟩, bX, H⟩ := H
    try dsimp only at H
    have e8 := A_ bX; clear bX; replace H := bS H; obtain ⟨⟨bY, bZ, b0⟩, b1, H⟩ := H
    try dsimp only at H
    have e9 := A_ b1; clear b1; simp only [Option.some.injEq, Prod.mk.injEq] at H; obtain ⟨rfl, rfl, rfl, rfl⟩ := H; have eR := aJ.out; have eS := aK.out; obtain ⟨cV, cW, cX, cY, cZ, dA⟩ := C3 aA.out
    go_wp2_with (first | ((with_reducible refine gate_callee (f := 28) rfl ?_); refine gL 16 Try.func28 #[.agg #[.slice aZ aO.length a0, .slice a1 aL.length a2, .slice a3 aP.length a4]] ?_; (with_reducible refine (impl_histCopy.calls e7 _ _ aO _ _ aL _ _ aP aV aY aW _ ?s1 bF.out ?s3 bH.out ?s5 bJ.out e8.out).mono ?_); (case s1 => exact Z5 bE.out); (case s3 => exact Z5 bG.out); (case s5 => exact Z5 bI.out); rintro e fF ⟨b2, b3, b4, rfl, ho0, ho1, ho2, hb⟩; refine ⟨_, rfl, ?_⟩; have aT := A_ (Kd.N_lower (Nm (ok' := fun k_ => (w.heap.size ≤ k_) ∧ some k_ ≠ (b3 : Value).ownBlock ∧ some k_ ≠ (b4 : Value).ownBlock ∧ k_ ≠ aE ∧ k_ ≠ aD) (Kd.S_N (Kd.S_bound (Kd.S_apart' (Kd.S_apart' ho0 (Kd.R_typed ho1) (by decide)) (Kd.R_typed ho2) (by decide)))) (fun k_ hk_ => ⟨(Nat.le_trans (bz (Z4 GE170.out GE171.out)) hk_.2.1), hk_.1.1.2, hk_.1.2, (Kd.freshB (Z0 aA.out) k_ hk_.2.1), (Kd.freshB (Z0 aB.out) k_ hk_.2.1)⟩)) (bz (Z4 GE170.out GE171.out))); have aU := A_ (Kd.N_lower (Nm (ok' := fun k_ => (w.heap.size ≤ k_) ∧ some k_ ≠ (b2 : Value).ownBlock ∧ some k_ ≠ (b4 : Value).ownBlock ∧ k_ ≠ aE ∧ k_ ≠ aD) (Kd.R_N (Kd.R_bound ho1)) (fun k_ hk_ => ⟨(Nat.le_trans (bz (Z4 GE170.out GE171.out)) hk_.2.1), hk_.1.1, hk_.1.2, (Kd.freshB (Z0 aA.out) k_ hk_.2.1), (Kd.freshB (Z0 aB.out) k_ hk_.2.1)⟩)) (bz (Z4 GE170.out GE171.out))); have aI := A_ (Kd.N_lower (Nm (ok' := fun k_ => (w.heap.size ≤ k_) ∧ some k_ ≠ (b2 : Value).ownBlock ∧ some k_ ≠ (b3 : Value).ownBlock ∧ k_ ≠ aE ∧ k_ ≠ aD) (Kd.R_N (Kd.R_bound ho2)) (fun k_ hk_ => ⟨(Nat.le_trans (bz (Z4 GE170.out GE171.out)) hk_.2.1), hk_.1.1, hk_.1.2, (Kd.freshB (Z0 aA.out) k_ hk_.2.1), (Kd.freshB (Z0 aB.out) k_ hk_.2.1)⟩)) (bz (Z4 GE170.out GE171.out))); replace aA := A_ (bb (Z0 aA.out) hb); replace aB := A_ (bb (Z0 aB.out) hb); replace HB := A_ (bst (Z4 GE170.out GE171.out) hb); (try clear hb); (try clear ho0); (try clear ho1); (try clear ho2)) | ((with_reducible refine gate_dst (N := 4) rfl ?_); (try (refine gate_guard (by rfl) ?_; dsimp only)); refine be (cs := #[.slice none 0 0, .slice none 0 0, .slice none 0 0]) (t := 26) ?_; intro aC hg fA hbox hb; replace aT := A_ (Nbl (Kd.N_elderB (Z8 aT.out) aC (Nat.le_of_eq hg.symm)) hb); replace aU := A_ (Nbl (Kd.N_elderB (Z8 aU.out) aC (Nat.le_of_eq hg.symm)) hb); replace aI := A_ (Nbl (Kd.N_elderB (Z8 aI.out) aC (Nat.le_of_eq hg.symm)) hb); have aN := A_ hbox; have b5 := A_ (gl hg (bz (Z4 GE170.out GE171.out))); have GE182 := b5; replace HB := A_ (bst (Z4 GE170.out GE171.out) hb); have aX := A_ ((by rw [hg]; exact nl (blk_lt (Z0 aA.out)) : aE ≠ aC)); have bA := A_ ((by rw [hg]; exact Nat.ne_of_gt (blk_lt (Z0 aA.out)) : aC ≠ aE)); replace aA := A_ (bb (Z0 aA.out) hb); have aS := A_ ((by rw [hg]; exact nl (blk_lt (Z0 aB.out)) : aD ≠ aC)); have bB := A_ ((by rw [hg]; exact Nat.ne_of_gt (blk_lt (Z0 aB.out)) : aC ≠ aD)); replace aB := A_ (bb (Z0 aB.out) hb); clear hb hbox hg; obtain ⟨a5, a6, d7⟩ := Kd.N_slice aT.out; subst d7; have eT := bA.out; have eU := aX.out; have eV := bB.out; have eW := aS.out; obtain ⟨dB, dC, dD, dE, dF, dG⟩ := C3 aN.out; obtain ⟨bC, bD, d8⟩ := Kd.N_slice aU.out; subst d8; obtain ⟨a7, a8, d9⟩ := Kd.N_slice aI.out; subst d9) | ((with_reducible refine gate_store (t := 26) (p := 4) rfl ?_); refine store_event (t := 26) (p := 4) (v := ?vo_w29) (w1 := (((fA.setCell ⟨aC, 0, none⟩ (.slice a5 aV.length a6)).setCell ⟨aC, 1, none⟩ (.slice bC aY.length bD)).setCell ⟨aC, 2, none⟩ (.slice a7 aW.length a8))) ?hg ?ho ?hn ?hr ?_; (case ho => rfl); (case hg => rfl); (case hn => rfl); (case hr => exact Z48); intro bU hw; have eX : Aside0 (Kd.N k72 72 bU w.heap.size (fun k_ => (w.heap.size ≤ k_) ∧ ob k_ bC aY bD ∧ ob k_ a7 aW a8 ∧ k_ ≠ aE ∧ k_ ≠ aD ∧ k_ ≠ aC) (.slice a5 aV.length a6) aV) := ⟨(by rw [hw]; exact (by (with_reducible repeat (first | apply Kd.N_alloc | apply Kd.N_drewN | apply Kd.N_drew)); exact Nm (Nf (Nf (Nf (Nm aT.out (fun k_ hk => (⟨hk, hk.2⟩ : _ ∧ k_ ≠ aC)))))) (fun _ hk => ⟨hk.1.1.1, ⟨hk.1.1.2.1, ⟨hk.1.1.2.2.1, ⟨hk.1.1.2.2.2.1, ⟨hk.1.1.2.2.2.2, hk.1.2⟩⟩⟩⟩⟩)))⟩; have eY : Aside0 (Kd.N (Kd.slice 72 k72) 23 bU w.heap.size (fun k_ => (w.heap.size ≤ k_) ∧ ob k_ a5 aV a6 ∧ ob k_ a7 aW a8 ∧ k_ ≠ aE ∧ k_ ≠ aD ∧ k_ ≠ aC) (.slice bC aY.length bD) aY) := ⟨(by rw [hw]; exact (by (with_reducible repeat (first | apply Kd.N_alloc | apply Kd.N_drewN | apply Kd.N_drew)); exact Nm (Nf (Nf (Nf (Nm aU.out (fun k_ hk => (⟨hk, hk.2⟩ : _ ∧ k_ ≠ aC)))))) (fun _ hk => ⟨hk.1.1.1, ⟨hk.1.1.2.1, ⟨hk.1.1.2.2.1, ⟨hk.1.1.2.2.2.1, ⟨hk.1.1.2.2.2.2, hk.1.2⟩⟩⟩⟩⟩)))⟩; have eZ : Aside0 (Kd.N (Kd.slice 72 k72) 23 bU w.heap.size (fun k_ => (w.heap.size ≤ k_) ∧ ob k_ a5 aV a6 ∧ ob k_ bC aY bD ∧ k_ ≠ aE ∧ k_ ≠ aD ∧ k_ ≠ aC) (.slice a7 aW.length a8) aW) := ⟨(by rw [hw]; exact (by (with_reducible repeat (first | apply Kd.N_alloc | apply Kd.N_drewN | apply Kd.N_drew)); exact Nm (Nf (Nf (Nf (Nm aI.out (fun k_ hk => (⟨hk, hk.2⟩ : _ ∧ k_ ≠ aC)))))) (fun _ hk => ⟨hk.1.1.1, ⟨hk.1.1.2.1, ⟨hk.1.1.2.2.1, ⟨hk.1.1.2.2.2.1, ⟨hk.1.1.2.2.2.2, hk.1.2⟩⟩⟩⟩⟩)))⟩; have b6 : Aside0 (bU.heap[aE]? = some (.cells #[.slice aZ aO.length a0, .slice a1 aL.length a2, .slice a3 aP.length a4] 26 (0, 0))) := ⟨(by rw [hw]; exact (Z9 aX.out aA.out))⟩; have b7 : Aside0 (bU.heap[aD]? = some (.cells #[.slice none 0 0, .slice none 0 0, .slice none 0 0] 26 (0, 0))) := ⟨(by rw [hw]; exact (Z9 aS.out aB.out))⟩; have b8 : Aside0 (bU.heap[aC]? = some (.cells #[.slice a5 aV.length a6, .slice bC aY.length bD, .slice a7 aW.length a8] 26 (0, 0))) := ⟨(by rw [hw]; exact (bp0 aN.out))⟩; have b9 : Aside0 (Below w.heap.size w bU) := ⟨(by rw [hw]; exact Z70)⟩; clear hw; clear aT; clear aU; clear aI; clear aA; clear aB; clear aN; clear HB; have aT := eX; have aU := eY; have aI := eZ; have aA := b6; have aB := b7; have aN := b8; have HB := b9; clear eX eY eZ b6 b7 b8 b9; obtain ⟨dH, dI, dJ, dK, dL, dM⟩ := C3 aN.out) | ((with_reducible refine gate_callee (f := 29) rfl ?_); refine gL 24 Try.func29 #[.slice a5 aV.length a6, .slice bC aY.length bD, .slice a7 aW.length a8] ?_; (with_reducible refine (impl_histStep.calls (fun k_ => ((w.heap.size ≤ k_) ∧ (ob k_ a5 aV a6 ∧ (ob k_ a7 aW a8 ∧ (k_ ≠ aE ∧ (k_ ≠ aD ∧ k_ ≠ aC)))))) (fun k_ => (w.heap.size ≤ k_) ∧ k_ ≠ aE ∧ k_ ≠ aD ∧ k_ ≠ aC) _ _ aV _ _ aY _ _ aW bY bZ b0 w _ ?s0 ?s1 ?s2 ?s3 ?s4 ?s5 e9.out).mono ?_); (case s0 => exact Z70); (case s1 => exact Vm (Kd.N_V (aT.out)) (fun k_ hk_ => by first | (obtain ⟨aM, aQ, aR, aF, aG, aH⟩ := hk_; exact ⟨⟨aM, aF, aG, aH⟩, by first | exact aQ | exact aR⟩) | (obtain ⟨⟨aM, aQ, aR, aF, aG⟩, aH⟩ := hk_; exact ⟨⟨aM, aF, aG, aH⟩, by first | exact aQ | exact aR⟩) | (obtain ⟨⟨⟨aM, aQ, aR, aF⟩, aG⟩, aH⟩ := hk_; exact ⟨⟨aM, aF, aG, aH⟩, by first | exact aQ | exact aR⟩))); (case s2 => exact Vm (Kd.N_V (aU.out)) (fun k_ hk_ => by first | (obtain ⟨aM, aQ, aR, aF, aG, aH⟩ := hk_; exact ⟨aM, aQ, aR, aF, aG, aH⟩) | (obtain ⟨⟨aM, aQ, aR, aF, aG⟩, aH⟩ := hk_; exact ⟨aM, aQ, aR, aF, aG, aH⟩) | (obtain ⟨⟨⟨aM, aQ, aR, aF⟩, aG⟩, aH⟩ := hk_; exact ⟨aM, aQ, aR, aF, aG, aH⟩))); (case s3 => exact Nm (aI.out) (fun k_ hk_ => by first | (obtain ⟨aM, aQ, aR, aF, aG, aH⟩ := hk_; exact ⟨aM, aF, aG, aH⟩) | (obtain ⟨⟨aM, aQ, aR, aF, aG⟩, aH⟩ := hk_; exact ⟨aM, aF, aG, aH⟩) | (obtain ⟨⟨⟨aM, aQ, aR, aF⟩, aG⟩, aH⟩ := hk_; exact ⟨aM, aF, aG, aH⟩))); (case s4 => exact fun k_ hk_ => by first | (obtain ⟨aM, aQ, aR, aF, aG, aH⟩ := hk_; exact (by first | exact aQ | exact aR)) | (obtain ⟨⟨aM, aQ, aR, aF, aG⟩, aH⟩ := hk_; exact (by first | exact aQ | exact aR)) | (obtain ⟨⟨⟨aM, aQ, aR, aF⟩, aG⟩, aH⟩ := hk_; exact (by first | exact aQ | exact aR))); (case s5 => exact fun k_ hn_ => ⟨Nat.le_trans (bz Z70) hn_, (Kd.freshB (Z0 aA.out) k_ hn_), (Kd.freshB (Z0 aB.out) k_ hn_), (Kd.freshB (Z0 aN.out) k_ hn_)⟩); rintro e fG ⟨fB, fC, cA, rfl, ho0, ho1, ho2, hb, hkp⟩; refine ⟨_, rfl, ?_⟩; have b6 := A_ (Vm (ok' := fun k_ => (w.heap.size ≤ k_) ∧ some k_ ≠ (cA : Value).ownBlock ∧ k_ ≠ aE ∧ k_ ≠ aD ∧ k_ ≠ aC) ho0 (fun k_ hk_ => by obtain ⟨⟨aM, aQ, aR, aF, aG, aH⟩, eA⟩ := hk_; exact ⟨aM, eA, aF, aG, aH⟩)); have b7 := A_ (Vm (ok' := fun k_ => (w.heap.size ≤ k_) ∧ some k_ ≠ (cA : Value).ownBlock ∧ k_ ≠ aE ∧ k_ ≠ aD ∧ k_ ≠ aC) ho1 (fun k_ hk_ => by obtain ⟨⟨aM, aQ, aR, aF, aG, aH⟩, eA⟩ := hk_; exact ⟨aM, eA, aF, aG, aH⟩)); have b8 := A_ (ho2); have b9 := A_ (blk_kept (Z0 aA.out) hkp (Kd.N_away aI.out (fun k_ hk_ => by first | (obtain ⟨aM, aQ, aR, aF, aG, aH⟩ := hk_; exact aF) | (obtain ⟨⟨aM, aQ, aR, aF, aG⟩, aH⟩ := hk_; exact aF) | (obtain ⟨⟨⟨aM, aQ, aR, aF⟩, aG⟩, aH⟩ := hk_; exact aF)))); have e0 := A_ (blk_kept (Z0 aB.out) hkp (Kd.N_away aI.out (fun k_ hk_ => by first | (obtain ⟨aM, aQ, aR, aF, aG, aH⟩ := hk_; exact aG) | (obtain ⟨⟨aM, aQ, aR, aF, aG⟩, aH⟩ := hk_; exact aG) | (obtain ⟨⟨⟨aM, aQ, aR, aF⟩, aG⟩, aH⟩ := hk_; exact aG)))); have e1 := A_ (blk_kept (Z0 aN.out) hkp (Kd.N_away aI.out (fun k_ hk_ => by first | (obtain ⟨aM, aQ, aR, aF, aG, aH⟩ := hk_; exact aH) | (obtain ⟨⟨aM, aQ, aR, aF, aG⟩, aH⟩ := hk_; exact aH) | (obtain ⟨⟨⟨aM, aQ, aR, aF⟩, aG⟩, aH⟩ := hk_; exact aH)))); have e2 := A_ (hb); clear aT; clear aU; clear aI; clear aA; clear aB; clear aN; clear HB; have bQ := b6; have bR := b7; have bT := b8; have aA := b9; have aB := e0; have aN := e1; have HB := e2; clear b6 b7 b8 b9 e0 e1 e2; (try clear hb); (try clear hkp); (try clear ho0); (try clear ho1); (try clear ho2); obtain ⟨eB, eC, eD⟩ := Kd.V_slice bQ.out; subst eD; obtain ⟨dN, dO, dP, dQ, dR, dS⟩ := C3 aN.out; obtain ⟨eE, eF, eG⟩ := Kd.V_slice bR.out; subst eG; obtain ⟨eH, eI, eJ⟩ := Kd.N_slice bT.out; subst eJ; obtain ⟨dT, dU, dV, dW, dX, dY⟩ := C3 aB.out))
    refine bodyPost_ret (results_ct rfl _ _ aD 26 #[.slice eB bY.length eC, .slice eE bZ.length eF, .slice eH b0.length eI] (0, 0) _ rfl (bp1 aB.out aS.out) Try.underlying26 rfl (by kernel_rfl)) rfl ?_
    exact ⟨_, _, _, Z11, by (with_reducible repeat (first | apply Kd.V_alloc | apply Kd.V_drewN | apply Kd.V_drew)); exact Vm (Vf (Vf (Vf (Kd.V_far (Kd.V_far (Kd.V_far (Vm (Vm bQ.out (fun k_ hk => (⟨hk, hk.2.2.2.2⟩ : _ ∧ k_ ≠ aC))) (fun k_ hk => (⟨hk, hk.1.2.2.2.1⟩ : _ ∧ k_ ≠ aD))) (fun _ hk => hk.1.2) _) (fun _ hk => hk.1.2) _) (fun _ hk => hk.1.2) _)))) (fun _ hk => ⟨hk.1.1.1, hk.1.1.2.1⟩), by (with_reducible repeat (first | apply Kd.V_alloc | apply Kd.V_drewN | apply Kd.V_drew)); exact Vm (Vf (Vf (Vf (Kd.V_far (Kd.V_far (Kd.V_far (Vm (Vm bR.out (fun k_ hk => (⟨hk, hk.2.2.2.2⟩ : _ ∧ k_ ≠ aC))) (fun k_ hk => (⟨hk, hk.1.2.2.2.1⟩ : _ ∧ k_ ≠ aD))) (fun _ hk => hk.1.2) _) (fun _ hk => hk.1.2) _) (fun _ hk => hk.1.2) _)))) (fun _ hk => ⟨hk.1.1.1, hk.1.1.2.1⟩), by (with_reducible repeat (first | apply Kd.N_alloc | apply Kd.N_drewN | apply Kd.N_drew)); exact Nm (Nf (Nf (Nf (Kd.N_far (Kd.N_far (Kd.N_far (Nm (Nm bT.out (fun k_ hk => (⟨hk, hk.2.2.2⟩ : _ ∧ k_ ≠ aC))) (fun k_ hk => (⟨hk, hk.1.2.2.1⟩ : _ ∧ k_ ≠ aD))) (fun _ hk => hk.1.2) _) (fun _ hk => hk.1.2) _) (fun _ hk => hk.1.2) _)))) (fun _ hk => hk.1.1.1), Z70⟩
mutual
def spec_comparePlaces.l0 : Nat → List (S96) → List (S96) → Int → Option (Int)
 | 0, _, _, _ => none
 | k + 1, x0, x1, x5 => if x5 < (x0.length : Int) then (spec_comparePlaces.j1 k x0 x1 x5 (decide (x5 < (x1.length : Int)))) else (spec_comparePlaces.j1 k x0 x1 x5 false)
def spec_comparePlaces.j1 : Nat → List (S96) → List (S96) → Int → Bool → Option (Int)
 | 0, _, _, _, _ => none
 | k + 1, x0, x1, x5, aA => if aA = true then (if 0 ≤ x5 then (if x5 < (x0.length : Int) then (if x5 < (x1.length : Int) then (if ((rd_T96 x0 x5).f0) < ((rd_T96 x1 x5).f0) then (spec_comparePlaces.j2 k x0 x1 x5 (decide (((rd_T96 x0 x5).f0) < ((rd_T96 x1 x5).f0)))) else (if ((rd_T96 x0 x5).f0) = ((rd_T96 x1 x5).f0) then (spec_comparePlaces.j2 k x0 x1 x5 (decide (((rd_T96 x0 x5).f1) < ((rd_T96 x1 x5).f1)))) else (spec_comparePlaces.j2 k x0 x1 x5 false))) else (none)) else (none)) else (none)) else (if (x0.length : Int) < (x1.length : Int) then (some (-1)) else (if (x0.length : Int) > (x1.length : Int) then (some 1) else (some 0)))
def spec_comparePlaces.j2 : Nat → List (S96) → List (S96) → Int → Bool → Option (Int)
 | 0, _, _, _, _ => none
 | k + 1, x0, x1, x5, aB => if aB = true then (some (-1)) else (if 0 ≤ x5 then (if x5 < (x0.length : Int) then (if x5 < (x1.length : Int) then (if (!(((rd_T96 x0 x5).f0) == ((rd_T96 x1 x5).f0)) || (!(((rd_T96 x0 x5).f1) == ((rd_T96 x1 x5).f1)))) = true then (some 1) else (spec_comparePlaces.l0 k x0 x1 (wrap64 (x5 + 1)))) else (none)) else (none)) else (none))
end
def spec_comparePlaces.f (k : Nat) (l0 : List (S96)) (l1 : List (S96)) : Option (Int) := spec_comparePlaces.l0 k l0 l1 0
theorem spec_comparePlaces.calls (k : Nat) (A0 : Option Addr) (c0 : Nat) (l0 : List (S96)) (A1 : Option Addr) (c1 : Nat) (l1 : List (S96)) (r : Int) (w : World) (cG : Kd.C k96 w A0 l0.length l0) (hc0 : l0.length ≤ c0) (hr1 : Kd.C k96 w A1 l1.length l1) (cH : l1.length ≤ c1) (h : spec_comparePlaces.f k l0 l1 = some r) :
  Calls Try.prog 59 #[.slice A0 l0.length c0, .slice A1 l1.length c1] w fun e w' => e = .returned (.int .i64 r) ∧ Drawn0 w w' := by
 have cM := Try.underlying96; have bL := A_ cG; have cR := A_ hc0; clear cG hc0; have bM := A_ hr1; have cS := A_ cH; clear hr1 cH; have H := h; unfold spec_comparePlaces.f at H; clear h; have H' := A_ H; clear H
 go_enter Try.func59, Try.ntmps59
 go_wp2
 repeat (go_quiet (fail); try go_wp2)
 go_loopg [5] k (fun kq v5 w' => ∃ (aA : Int), v5 = .int .i64 aA ∧ Aside0 (spec_comparePlaces.l0 kq l0 l1 aA = some r) ∧ Aside0 (kq ≤ k) ∧ Drawn0 w w')
 case atStart => exact ⟨(0), Z26, H', ⟨Nat.le_refl _⟩, Z34⟩
 case round =>
  clear H'; try clear c1
  obtain ⟨aA, rfl, HA, bB, ⟨m1, rfl⟩⟩ := hrel
  cases gk with
  | zero => exact absurd HA.out (by simp [spec_comparePlaces.l0])
  | succ k1 =>
   have H := HA.out; clear HA; simp only [spec_comparePlaces.l0] at H; have b7 := A_ H; clear H
   go_upto_region 2 with (fail)
   repeat (go_quiet (fail); go_upto_region 2 with (fail))
   go_cut [15] (fun cN wc => ∃ (kq : Nat) (aM : Bool), cN = .bool aM ∧ Aside0 (spec_comparePlaces.j1 kq l0 l1 aA aM = some r) ∧ Aside0 (kq ≤ k1) ∧ Drawn0 w wc)
   case first =>
    have H := b7.out; clear b7
    by_cases c4 : aA < (l0.length : Int)
    ·rw [if_pos c4] at H
     have aO := dt c4; clear c4; (first | rw [aO] | (simp only [i64_w, i32_w]; rw [aO]) | skip); have H' := A_ H; clear H
     go_wp2
     repeat (go_quiet (fail); try go_wp2)
     go_meet
     case rel => exact ⟨_, (decide (aA < (l1.length : Int))), Z26, H', ⟨by have := bB.out; first | omega | exact Nat.le_refl _⟩, Z34⟩
    ·rw [if_neg c4] at H
     have aO := df c4; clear c4; (first | rw [aO] | (simp only [i64_w, i32_w]; rw [aO]) | skip); have H' := A_ H; clear H
     go_wp2
     repeat (go_quiet (fail); try go_wp2)
     go_meet
     case rel => exact ⟨_, (false), Z26, H', ⟨by have := bB.out; first | omega | exact Nat.le_refl _⟩, Z34⟩
   case rest =>
    clear b7; try clear c1
    try clear c4
    obtain ⟨kq, aM, rfl, HA, bO, ⟨cT, rfl⟩⟩ := hcut
    cases kq with
    | zero => exact absurd HA.out (by simp [spec_comparePlaces.j1])
    | succ cO =>
     have H := HA.out; clear HA; simp only [spec_comparePlaces.j1] at H
     by_cases c5 : aM = true
     ·subst c5
      rw [if_pos rfl] at H
      by_cases c6 : 0 ≤ aA
      ·rw [if_pos c6] at H
       have b8 := dt c6; clear c6
       by_cases c7 : aA < (l0.length : Int)
       ·rw [if_pos c7] at H
        have b9 := dt c7; clear c7
        by_cases c8 : aA < (l1.length : Int)
        ·rw [if_pos c8] at H
         have cA := dt c8; clear c8; have cB := A_ H; clear H; have aT : 0 ≤ (aA : Int) := odt; have aU : aA < (l0.length : Int) := odt; obtain ⟨aB, cC, aV, aW⟩ := at_T96 bL.out aA aT aU; cases cC; replace aT := eq_true aT; replace aU := eq_true aU; have aX : 0 ≤ (aA : Int) := odt; have aY : aA < (l1.length : Int) := odt; obtain ⟨aC, cD, aZ, a0⟩ := at_T96 bM.out aA aX aY; cases cD; replace aX := eq_true aX; replace aY := eq_true aY
         go_upto_if 18 with (fail)
         repeat (go_quiet (fail); go_upto_if 18 with (fail))
         go_cut [18] (fun cP wc => ∃ (kq : Nat) (aN : Bool), cP = .bool aN ∧ Aside0 (spec_comparePlaces.j2 kq l0 l1 aA aN = some r) ∧ Aside0 (kq ≤ cO) ∧ Drawn0 w wc)
         case first =>
          have H := cB.out; clear cB
          by_cases c10 : ((rd_T96 l0 aA).f0) < ((rd_T96 l1 aA).f0)
          ·rw [if_pos c10] at H
           have aD := dt c10; clear c10; (first | rw [aD] | (simp only [i64_w, i32_w]; rw [aD]) | skip); have H' := A_ H; clear H
           go_wp2
           repeat (go_quiet (fail); try go_wp2)
           go_meet
           case rel => exact ⟨_, (decide (((rd_T96 l0 aA).f0) < ((rd_T96 l1 aA).f0))), Z26, H', ⟨by have := bB.out; have := bO.out; first | omega | exact Nat.le_refl _⟩, Z34⟩
          ·rw [if_neg c10] at H
           have aD := df c10; clear c10; (first | rw [aD] | (simp only [i64_w, i32_w]; rw [aD]) | skip)
           by_cases bC : ((rd_T96 l0 aA).f0) = ((rd_T96 l1 aA).f0)
           ·rw [if_pos bC] at H
            have bP : (((rd_T96 l0 aA).f0) == ((rd_T96 l1 aA).f0)) = true := beq_iff_eq.mpr bC; have bQ : (((rd_T96 l0 aA).f0) != ((rd_T96 l1 aA).f0)) = false := bne_eq_false_iff_eq.mpr bC; clear bC; have H' := A_ H; clear H; have aE : 0 ≤ (aA : Int) := odt; have aF : aA < (l0.length : Int) := odt; obtain ⟨aP, bD, a1, a2⟩ := at_T96 bL.out aA aE aF; obtain rfl : aB = aP := (by injection bD); replace aE := eq_true aE; replace aF := eq_true aF; have aG : 0 ≤ (aA : Int) := odt; have aH : aA < (l1.length : Int) := odt; obtain ⟨aQ, bE, a3, a4⟩ := at_T96 bM.out aA aG aH; obtain rfl : aC = aQ := (by injection bE); replace aG := eq_true aG; replace aH := eq_true aH; have bF : 0 ≤ (aA : Int) := odt; have bG : aA < (l0.length : Int) := odt; obtain ⟨bR, cE, bZ, b0⟩ := at_T96 bL.out aA bF bG; obtain rfl : aB = bR := (by injection cE); replace bF := eq_true bF; replace bG := eq_true bG; have bH : 0 ≤ (aA : Int) := odt; have bI : aA < (l1.length : Int) := odt; obtain ⟨bT, cF, b1, b2⟩ := at_T96 bM.out aA bH bI; obtain rfl : aC = bT := (by injection cF); replace bH := eq_true bH; replace bI := eq_true bI
            go_wp2
            repeat (go_quiet (fail); try go_wp2)
            go_meet
            case rel => exact ⟨_, (decide (((rd_T96 l0 aA).f1) < ((rd_T96 l1 aA).f1))), Z26, H', ⟨by have := bB.out; have := bO.out; first | omega | exact Nat.le_refl _⟩, Z34⟩
           ·rw [if_neg bC] at H
            have bP : (((rd_T96 l0 aA).f0) == ((rd_T96 l1 aA).f0)) = false := beq_eq_false_iff_ne.mpr bC; have bQ : (((rd_T96 l0 aA).f0) != ((rd_T96 l1 aA).f0)) = true := bne_iff_ne.mpr bC; have H' := A_ H; clear H; have aE : 0 ≤ (aA : Int) := odt; have aF : aA < (l0.length : Int) := odt; obtain ⟨aP, bD, a1, a2⟩ := at_T96 bL.out aA aE aF; obtain rfl : aB = aP := (by injection bD); replace aE := eq_true aE; replace aF := eq_true aF; have aG : 0 ≤ (aA : Int) := odt; have aH : aA < (l1.length : Int) := odt; obtain ⟨aQ, bE, a3, a4⟩ := at_T96 bM.out aA aG aH; obtain rfl : aC = aQ := (by injection bE); replace aG := eq_true aG; replace aH := eq_true aH
            go_wp2
            repeat (go_quiet (fail); try go_wp2)
            go_meet
            case rel => exact ⟨_, (false), Z26, H', ⟨by have := bB.out; have := bO.out; first | omega | exact Nat.le_refl _⟩, Z34⟩
         case rest =>
          clear cB; try clear c1
          try clear c4
          try clear aO
          try clear c5
          try clear c6
          try clear b8
          try clear c7
          try clear b9
          try clear c8
          try clear cA
          try clear c10
          try clear aV
          try clear aW
          try clear aZ
          try clear a0
          try clear aT
          try clear aX
          try clear aU
          try clear aY
          obtain ⟨kq, aN, rfl, HA, cI, ⟨cU, rfl⟩⟩ := hcut
          cases kq with
          | zero => exact absurd HA.out (by simp [spec_comparePlaces.j2])
          | succ cQ =>
           have H := HA.out; clear HA; simp only [spec_comparePlaces.j2] at H
           by_cases b3 : aN = true
           ·subst b3
            rw [if_pos rfl] at H; obtain rfl := Option.some.inj H
            go_wp2
            repeat (go_quiet (fail); try go_wp2)
            go_ret
            exact ⟨Z26, Z34⟩
           ·replace b3 := Bool.eq_false_iff.mpr b3
            subst b3; rw [if_neg (show ¬ (false = true) by decide)] at H
            by_cases b4 : 0 ≤ aA
            ·rw [if_pos b4] at H
             have cJ := dt b4; clear b4
             by_cases b5 : aA < (l0.length : Int)
             ·rw [if_pos b5] at H
              have cK := dt b5; clear b5
              by_cases b6 : aA < (l1.length : Int)
              ·rw [if_pos b6] at H
               have cL := dt b6; clear b6
               by_cases bN : (!(((rd_T96 l0 aA).f0) == ((rd_T96 l1 aA).f0)) || (!(((rd_T96 l0 aA).f1) == ((rd_T96 l1 aA).f1)))) = true
               ·rw [if_pos bN] at H
                have bU : (!(((rd_T96 l0 aA).f0) == ((rd_T96 l1 aA).f0)) || (!(((rd_T96 l0 aA).f1) == ((rd_T96 l1 aA).f1)))) = true := bN; clear bN; obtain rfl := Option.some.inj H; have aI : 0 ≤ (aA : Int) := odt; have aJ : aA < (l0.length : Int) := odt; obtain ⟨aR, bJ, a5, a6⟩ := at_T96 bL.out aA aI aJ; obtain rfl : aB = aR := (by injection bJ); replace aI := eq_true aI; replace aJ := eq_true aJ; have aK : 0 ≤ (aA : Int) := odt; have aL : aA < (l1.length : Int) := odt; obtain ⟨aS, bK, a7, a8⟩ := at_T96 bM.out aA aK aL; obtain rfl : aC = aS := (by injection bK); replace aK := eq_true aK; replace aL := eq_true aL
                go_wp2
                repeat (go_quiet (fail); try go_wp2)
                go_ret
                exact ⟨Z26, Z34⟩
               ·rw [if_neg bN] at H
                have bU : (!(((rd_T96 l0 aA).f0) == ((rd_T96 l1 aA).f0)) || (!(((rd_T96 l0 aA).f1) == ((rd_T96 l1 aA).f1)))) = false := by simpa using bN
                clear bN; have H' := A_ H; clear H; have aI : 0 ≤ (aA : Int) := odt; have aJ : aA < (l0.length : Int) := odt; obtain ⟨aR, bJ, a5, a6⟩ := at_T96 bL.out aA aI aJ; obtain rfl : aB = aR := (by injection bJ); replace aI := eq_true aI; replace aJ := eq_true aJ; have aK : 0 ≤ (aA : Int) := odt; have aL : aA < (l1.length : Int) := odt; obtain ⟨aS, bK, a7, a8⟩ := at_T96 bM.out aA aK aL; obtain rfl : aC = aS := (by injection bK); replace aK := eq_true aK; replace aL := eq_true aL
                go_wp2
                repeat (go_quiet (fail); try go_wp2)
                go_roundg cQ
                case measure => have := bB.out; have := bO.out; have := cI.out; omega
                case rel => exact ⟨(wrap64 (aA + 1)), Z26, H', ⟨by have := bB.out; have := bO.out; have := cI.out; omega⟩, Z34⟩
              ·rw [if_neg b6] at H
               exact absurd H (by simp)
             ·rw [if_neg b5] at H
              exact absurd H (by simp)
            ·rw [if_neg b4] at H
             exact absurd H (by simp)
        ·rw [if_neg c8] at H
         exact absurd H (by simp)
       ·rw [if_neg c7] at H
        exact absurd H (by simp)
      ·rw [if_neg c6] at H
       exact absurd H (by simp)
     ·replace c5 := Bool.eq_false_iff.mpr c5
      subst c5; rw [if_neg (show ¬ (false = true) by decide)] at H
      by_cases a9 : (l0.length : Int) < (l1.length : Int)
      ·rw [if_pos a9] at H
       have bV := dt a9; have bW : decide (l0.length < l1.length) = true := dt (Int.ofNat_lt.mp a9); clear a9; obtain rfl := Option.some.inj H
       go_wp2
       repeat (go_quiet (fail); try go_wp2)
       go_ret
       exact ⟨Z26, Z34⟩
      ·rw [if_neg a9] at H
       have bV := df a9; have bW : decide (l0.length < l1.length) = false := df (fun h => a9 (Int.ofNat_lt.mpr h)); clear a9
       by_cases bA : (l0.length : Int) > (l1.length : Int)
       ·rw [if_pos bA] at H
        have bX : decide ((l1.length : Int) < (l0.length : Int)) = true := dt bA; have bY : decide (l1.length < l0.length) = true := dt (Int.ofNat_lt.mp bA); clear bA; obtain rfl := Option.some.inj H
        go_wp2
        repeat (go_quiet (fail); try go_wp2)
        go_ret
        exact ⟨Z26, Z34⟩
       ·rw [if_neg bA] at H
        have bX : decide ((l1.length : Int) < (l0.length : Int)) = false := df bA; have bY : decide (l1.length < l0.length) = false := df (fun h => bA (Int.ofNat_lt.mpr h)); clear bA; obtain rfl := Option.some.inj H
        go_wp2
        repeat (go_quiet (fail); try go_wp2)
        go_ret
        exact ⟨Z26, Z34⟩
end Go.Proofs.Ytgbbcebjgpoioaa.PFnHistRedo
