/- Walks (lines of the print; no condition). -/
import Derived.Test.YtgbbcebjgpoioaaZFnHistRedoQFnHistRedox12
namespace Go.Proofs.Ytgbbcebjgpoioaa.PFnHistRedo
open Go.RowKit Go.Proofs.YtgbbcebjgpoioaaW.PrintWords Go.Proofs.YtgbbcebjgpoioaaW.PrintLast Go.Proofs.YtgbbcebjgpoioaaW.PrintMore
attribute [local go_sem] max2_int min2_int max_two min_two max_three min_three max_four min_four
set_option linter.unusedVariables false
set_option linter.unusedSimpArgs false
set_option maxHeartbeats 8000000
set_option maxRecDepth 100000
def spec_HistUndo.j0 : Nat → Bool → List (S72) → List (List (S72)) → List (List (S72)) → Option ((List (S72)) × (List (List (S72))) × (List (List (S72))) × Bool)
 | 0, _, _, _, _ => none
 | k + 1, aH, aB, aA, aC => if aH = true then (some (([] : List (S72)), ([] : List (List (S72))), ([] : List (List (S72))), false)) else (if 0 ≤ (wrap64 ((aA.length : Int) - 1)) then (if (wrap64 ((aA.length : Int) - 1)) < (aA.length : Int) then ((spec_copyStore.f k (rd_L7 aA (wrap64 ((aA.length : Int) - 1)))).bind fun aE => (if (wrap64 ((aA.length : Int) - 1)) ≤ (aA.length : Int) then ((spec_copyStores.f k (aA.take ((wrap64 ((aA.length : Int) - 1)) : Int).toNat)).bind fun aF => ((spec_copyStores.f k aC).bind fun aD => ((spec_copyStore.f k aB).bind fun aG => (if aD.length < 5864062014805 then (some (aE, aF, (aD ++ [aG]), true)) else (none))))) else (none))) else (none)) else (none))
def spec_HistUndo.f (k : Nat) (aB : List (S72)) (aA : List (List (S72))) (aC : List (List (S72))) : Option ((List (S72)) × (List (List (S72))) × (List (List (S72))) × Bool) := (spec_validHist.f k aB aA aC).bind fun aD => (if aD = true then (spec_HistUndo.j0 k ((aA.length : Int) == 0) aB aA aC) else (spec_HistUndo.j0 k true aB aA aC))
def spec_HistUndo.T4 : Bool × List (List Nat × List Nat) := (true, [([], []), ([0], [0]), ([], []), ([1, 2], [1, 2]), ([3], [3]), ([4], [4]), ([], []), ([6], [6]), ([], []), ([7, 8], [7, 8]), ([9, 5], [9]), ([], []), ([11], [11]), ([12, 10], [12]), ([], []), ([14], [14]), ([15, 13], [15]), ([16], [16]), ([13, 17, 16], [13, 17]), ([5, 10, 18], [5, 10, 18]), ([19, 18, 0, 1, 2, 3, 4, 5, 6, 7, 8, 9, 10, 11, 12, 13, 14, 15, 16, 17, 18, 19], [19]), ([20, 0, 1, 2, 3, 4, 5, 6, 7, 8, 9, 10, 11, 12, 13, 14, 15, 16, 17, 18, 19, 20], [])])
def spec_HistUndo.B4 : List Nat := [0, 1, 0, 7, 15, 31, 0, 64, 0, 448, 1023, 0, 2048, 8191, 0, 16384, 65535, 131071, 262143, 524287, 1048575, 2097151]
theorem spec_HistUndo.tab4 : rtab .any (opsOf Try.f9 4) = spec_HistUndo.T4 := by kernel_rfl
theorem spec_HistUndo.bits4 : waitsOk spec_HistUndo.T4.2 spec_HistUndo.B4 = true := by kernel_rfl
theorem spec_HistUndo.calls (k : Nat) (aY : Option Addr) (aZ : Nat) (aQ : List (S72)) (bD : Option Addr) (aW : Nat) (aG : List (List (S72))) (a0 : Option Addr) (a1 : Nat) (aR : List (List (S72))) (r1 : List (S72)) (r2 : List (List (S72))) (r3 : List (List (S72))) (r4 : Bool) (w : World) (bT : Kd.C k72 w aY aQ.length aQ) (bU : aQ.length ≤ aZ) (bV : Kd.C (Kd.slice 72 k72) w bD aG.length aG) (bW : aG.length ≤ aW) (bX : Kd.C (Kd.slice 72 k72) w a0 aR.length aR) (bY : aR.length ≤ a1) (h : spec_HistUndo.f k aQ aG aR = some (r1, r2, r3, r4)) :
  Calls Try.prog 9 #[.agg #[.slice aY aQ.length aZ, .slice bD aG.length aW, .slice a0 aR.length a1]] w fun e w' => ∃ cX d7 d8 : Value, e = .returned (.tuple #[.agg #[cX, d7, d8], .bool r4]) ∧ Kd.S k72 72 w' w.heap.size (fun _ => True) cX r1 ∧ Kd.R (Kd.slice 72 k72) 23 w' w.heap.size (fun k_ => some k_ ≠ (cX : Value).ownBlock ∧ some k_ ≠ (d8 : Value).ownBlock) d7 r2 ∧ Kd.R (Kd.slice 72 k72) 23 w' w.heap.size (fun k_ => some k_ ≠ (cX : Value).ownBlock ∧ some k_ ≠ (d7 : Value).ownBlock) d8 r3 ∧ Below w.heap.size w w' := by
 have e8 := Try.underlying26; have bE := A_ bT; have bF := A_ bU; clear bT bU; have a4 := A_ bV; have bG := A_ bW; clear bV bW; have bH := A_ bX; have bI := A_ bY; clear bX bY; have HB := A_ (Below.refl w.heap.size w); have H := h; unfold spec_HistUndo.f at H; clear h; have d9 := A_ H; clear H
 go_enter Try.func9, Try.ntmps9
 go_upto_region 1 with (first | ((with_reducible refine gate_dst (N := 1) rfl ?_); (try (refine gate_guard (by rfl) ?_; dsimp only)); refine be (cs := #[.slice aY aQ.length aZ, .slice bD aG.length aW, .slice a0 aR.length a1]) (t := 26) ?_; intro aX hg w3 hbox hb; have aA := A_ hbox; have cC := A_ (gl hg (bz Z2)); have aH := cC; replace HB := A_ (bst Z2 hb); clear hb hbox hg) | ((with_reducible refine gate_dst (N := 2) rfl ?_); (try (refine gate_guard (by rfl) ?_; dsimp only)); refine be (cs := #[.slice none 0 0, .slice none 0 0, .slice none 0 0]) (t := 26) ?_; intro aT hg w4 hbox hb; have aD := A_ hbox; have a5 := A_ (gl hg (bz (Z3 aH.out))); have aJ := a5; replace HB := A_ (bst (Z3 aH.out) hb); have aC := A_ ((by rw [hg]; exact nl (blk_lt (Z0 aA.out)) : aX ≠ aT)); have aI := A_ ((by rw [hg]; exact Nat.ne_of_gt (blk_lt (Z0 aA.out)) : aT ≠ aX)); replace aA := A_ (bb (Z0 aA.out) hb); clear hb hbox hg))
 (try simp only [Act.put, List.setIfInBounds_toArray, List.set_cons_zero, List.set_cons_succ])
 go_cut [13] (fun e9 wc => ∃ (kq : Nat) (a6 : Bool), e9 = .bool a6 ∧ Aside0 (spec_HistUndo.j0 kq a6 aQ aG aR = some (r1, r2, r3, r4)) ∧ Aside0 (kq ≤ k) ∧ Aside0 (wc.heap[aX]? = some (.cells #[(.slice aY aQ.length aZ), (.slice bD aG.length aW), (.slice a0 aR.length a1)] 26 (0, 0))) ∧ Aside0 (wc.heap[aT]? = some (.cells #[(.slice none 0 0), (.slice none 0 0), (.slice none 0 0)] 26 (0, 0))) ∧ Aside0 (Below w.heap.size w wc))
 case first =>
  have H := d9.out; clear d9; replace H := bS H; obtain ⟨eA, eT, H⟩ := H
  try dsimp only at H
  have A5 := A_ eT; clear eT
  by_cases c6 : eA = true
  ·subst c6
   rw [if_pos rfl] at H; have H' := A_ H; clear H; have fA := aC.out; have fB := aI.out; obtain ⟨eB, eC, eD, eE, eF, eG⟩ := C3 aA.out
   go_wp2_with (first | ((with_reducible refine gate_callee (f := 24) rfl ?_); refine gL 6 Try.func24 #[.agg #[.slice aY aQ.length aZ, .slice bD aG.length aW, .slice a0 aR.length a1]] ?_; (with_reducible refine (spec_validHist.calls k _ _ aQ _ _ aG _ _ aR true _ ?s1 bF.out ?s3 bG.out ?s5 bI.out A5.out).mono ?_); (case s1 => exact Z5 bE.out); (case s3 => exact Z5 a4.out); (case s5 => exact Z5 bH.out); rintro e w9 ⟨rfl, hb⟩; refine ⟨_, rfl, ?_⟩; replace aA := A_ (bb (Z0 aA.out) hb); replace aD := A_ (bb (Z0 aD.out) hb); replace HB := A_ (bst (Z4 aH.out aJ.out) hb); (try clear hb); obtain ⟨cY, cZ, dA, dB, dC, dD⟩ := C3 aA.out))
   go_meet
   case rel => exact ⟨_, (((aG.length : Int) == 0)), Z26, H', ⟨Z85⟩, ⟨Z0 aA.out⟩, ⟨Z0 aD.out⟩, ⟨Z4 aH.out aJ.out⟩⟩
  ·replace c6 := Bool.eq_false_iff.mpr c6
   subst c6; rw [if_neg (show ¬ (false = true) by decide)] at H; have H' := A_ H; clear H; have eU := aC.out; have eV := aI.out; obtain ⟨dE, dF, dG, dH, dI, dJ⟩ := C3 aA.out
   go_wp2_with (first | ((with_reducible refine gate_callee (f := 24) rfl ?_); refine gL 6 Try.func24 #[.agg #[.slice aY aQ.length aZ, .slice bD aG.length aW, .slice a0 aR.length a1]] ?_; (with_reducible refine (spec_validHist.calls k _ _ aQ _ _ aG _ _ aR false _ ?s1 bF.out ?s3 bG.out ?s5 bI.out A5.out).mono ?_); (case s1 => exact Z5 bE.out); (case s3 => exact Z5 a4.out); (case s5 => exact Z5 bH.out); rintro e fN ⟨rfl, hb⟩; refine ⟨_, rfl, ?_⟩; replace aA := A_ (bb (Z0 aA.out) hb); replace aD := A_ (bb (Z0 aD.out) hb); replace HB := A_ (bst (Z4 aH.out aJ.out) hb); (try clear hb)))
   go_meet
   case rel => exact ⟨_, (true), Z26, H', ⟨Z85⟩, ⟨Z0 aA.out⟩, ⟨Z0 aD.out⟩, ⟨Z4 aH.out aJ.out⟩⟩
 case rest =>
  clear d9; try clear c6
  obtain ⟨kq, a6, rfl, HA, fO, aA, aD, HB⟩ := hcut
  cases kq with
  | zero => exact absurd HA.out (by simp [spec_HistUndo.j0])
  | succ dK =>
   have H := HA.out; clear HA; simp only [spec_HistUndo.j0] at H
   by_cases dL : a6 = true
   ·subst dL
    rw [if_pos rfl] at H; simp only [Option.some.injEq, Prod.mk.injEq] at H; obtain ⟨rfl, rfl, rfl, rfl⟩ := H; have eW := aI.out; have eX := aC.out; obtain ⟨dM, dN, dO, dP, dQ, dR⟩ := C3 aD.out
    go_wp2
    refine bodyPost_ret (results_ct rfl _ _ aT 26 #[.slice none 0 0, .slice none 0 0, .slice none 0 0] (0, 0) _ rfl (bp0 aD.out) Try.underlying26 rfl (by kernel_rfl)) rfl ?_
    exact ⟨_, _, _, Z11, Z96, Z44, Z44, Z4 aH.out aJ.out⟩
   ·replace dL := Bool.eq_false_iff.mpr dL
    subst dL; rw [if_neg (show ¬ (false = true) by decide)] at H; obtain ⟨aM, a2⟩ : ∃ j_ : Int, (wrap64 ((aG.length : Int) - 1)) = j_ := ⟨_, rfl⟩
    first | rw [a2] at H | simp only [a2] at H
    have eH : (IntKind.i64.wrap ((aG.length : Int) - 1)) = aM := (i64_w _).trans a2
    by_cases dS : 0 ≤ (aM)
    ·rw [if_pos dS] at H
     have eY := dt dS; clear dS
     by_cases dT : (aM) < (aG.length : Int)
     ·rw [if_pos dT] at H
      have eZ := dt dT; clear dT; replace H := bS H; obtain ⟨cD, cE, H⟩ := H
      try dsimp only at H
      have fC := A_ cE; clear cE; have e0 := eq_true (odt : 0 ≤ (aM))
      by_cases cF : (aM) ≤ (aG.length : Int)
      ·rw [if_pos cF] at H
       have e1 := eq_true cF; have e2 := dt cF; clear cF; obtain ⟨bP, a7⟩ : ∃ y_ : List (List (S72)), y_ = (aG.take ((aM) : Int).toNat) := ⟨_, rfl⟩
       first | rw [← a7, Option.bind_some] at H | rw [← a7] at H
       have bZ := A_ a7; clear a7; replace H := bS H; obtain ⟨cG, cH, H⟩ := H
       try dsimp only at H
       have fD := A_ cH; clear cH; replace H := bS H; obtain ⟨bQ, cI, H⟩ := H
       try dsimp only at H
       have fE := A_ cI; clear cI; replace H := bS H; obtain ⟨bJ, cJ, H⟩ := H
       try dsimp only at H
       have fF := A_ cJ; clear cJ
       by_cases dU : bQ.length < 5864062014805
       ·rw [if_pos dU] at H
        have cK := A_ dU; clear dU; obtain ⟨eI, a8⟩ : ∃ y_ : List (List (S72)), y_ = (bQ ++ [bJ]) := ⟨_, rfl⟩
        first | rw [← a8, Option.bind_some] at H | rw [← a8] at H
        have cL := A_ a8; clear a8; simp only [Option.some.injEq, Prod.mk.injEq] at H; obtain ⟨rfl, rfl, rfl, rfl⟩ := H; have e3 := aC.out; have e4 := aI.out; obtain ⟨dV, dW, dX, dY, dZ, d0⟩ := C3 aA.out
        try go_wp2
        replace aA := A_ (blk_drew aA.out); replace aD := A_ (blk_drew aD.out); replace HB := A_ (below_drew1 HB.out); have b3 : 0 ≤ ((aM) : Int) := odt; have b4 : (aM) < (aG.length : Int) := odt; obtain ⟨a3, bK, bL, eJ, aV, a9, bA⟩ := at_L7 a4.out (aM) b3 b4; have aE := aV; cases eJ; replace aV := ZC HB.out aV; have bB := A_ bA; have bR := A_ a9; clear bA a9; replace b3 := eq_true b3; replace b4 := eq_true b4; have eK : ((aM) : Int) ≤ ((aG.length : Int) : Int) := odt; obtain ⟨fG, b0, _, cM, _⟩ := info_parts info23; have bC : aG.length ≤ aW := bG.out; have cN : Kd.C (Kd.slice 72 k72) _ (some a3) aG.length aG := a4.out; have b5 := cut_to (P := Try.prog) 24 23 .i64 Try.underlying24 b0 (some a3) aG.length aW (aM) (odt) eK bC; have b6 := Kd.C_take (m := ((aM) : Int).toNat) cN (by omega); have b7 : bP.length = ((aM) : Int).toNat := (by rw [bZ.out, List.length_take]; omega); rw [← bZ.out] at b6; rw [← b7] at b5; have b1 := A_ b6; have cO := A_ (show bP.length ≤ aW from by omega); clear b6 cN bC b0 cM; have fH := A_ b7; clear b7; replace eK := eq_true eK
        refine start_ (n := 22) (S := fun w' => w'.cell? ⟨aX, 0, none⟩ = some (.slice aY aQ.length aZ) ∧ w'.cell? ⟨aX, 1, none⟩ = some (.slice (some a3) aG.length aW) ∧ w'.cell? ⟨aX, 2, none⟩ = some (.slice a0 aR.length a1) ∧ w'.cell? (a3.add ((aM)).toNat) = some (.slice bK (rd_L7 aG (aM)).length bL)) (ds := []) M50 (by kernel_rfl) rfl rfl ⟨(bc aA.out 0).trans rfl, (bc aA.out 1).trans rfl, (bc aA.out 2).trans rfl, (ZC HB.out aE :)⟩ (fun hHeld => ?_); refine with_tabW spec_HistUndo.tab4 spec_HistUndo.bits4 (fun HT_ HW_ => ?_)
        generalize wc.drew = fP at aA aD HB bB b1 aV hHeld ⊢; refine pU 0 19 M51 ?_; refine pU 2 21 M52 ?_; refine pU 6 25 M53 ?_; refine pU 8 27 #[T,F,T,F,F,F,T,F,T,F,F,F,F,F,F,F,F,F,F,F,F,F] ?_; refine pU 11 30 #[T,F,T,F,F,F,T,F,T,F,F,T,F,F,F,F,F,F,F,F,F,F] ?_; refine pU 14 33 #[T,F,T,F,F,F,T,F,T,F,F,T,F,F,T,F,F,F,F,F,F,F] ?_; refine tU 1 20 #[T,T,T,F,F,F,T,F,T,F,F,T,F,F,T,F,F,F,F,F,F,F] ?_ (y := Z47); refine pU 3 22 #[T,T,T,T,F,F,T,F,T,F,F,T,F,F,T,F,F,F,F,F,F,F] ?_; refine tU 4 23 #[T,T,T,T,T,F,T,F,T,F,F,T,F,F,T,F,F,F,F,F,F,F] ?_ (y := Z47); refine tU 7 26 #[T,T,T,T,T,F,T,T,T,F,F,T,F,F,T,F,F,F,F,F,F,F] ?_ (y := Z47); refine pU 9 28 #[T,T,T,T,T,F,T,T,T,T,F,T,F,F,T,F,F,F,F,F,F,F] ?_; refine tU 12 31 #[T,T,T,T,T,F,T,T,T,T,F,T,T,F,T,F,F,F,F,F,F,F] ?_ (y := Z47); refine tU 15 34 #[T,T,T,T,T,F,T,T,T,T,F,T,T,F,T,T,F,F,F,F,F,F] ?_ (y := Z47)
        refine oU 5 (some 24) #[T,T,T,T,T,T,T,T,T,T,F,T,T,F,T,T,F,F,F,F,F,F] (fun K hK => ?_)
        refine goes_ Try.func30 (by kernel_rfl) rfl #[.slice bK (rd_L7 aG (aM)).length bL] (by rfl) rfl rfl (by (try simp only [List.map_toArray, List.map_cons, List.map_nil]); first | done | (simp only [a2]; rfl) | rfl | (simp only [List.length_drop, List.length_take]; rfl)) ?_
        with_reducible refine (spec_copyStore.calls dK _ _ (rd_L7 aG (aM)) cD _ ?s1 ?s2 fC.out).mono ?_
        (case s1 => exact Z5 bB.out)
        (case s2 => exact bR.out)
        rintro e fQ ⟨b8, rfl, ho0, hb⟩
        refine ⟨_, rfl, ?_⟩
        have aK := A_ (Kd.S_lower ho0 (bz (Z4 aH.out aJ.out))); replace aA := A_ (bb (Z0 aA.out) hb); replace aD := A_ (bb (Z0 aD.out) hb); replace HB := A_ (bst (Z4 aH.out aJ.out) hb); (try clear hb); (try clear eL); (try clear hk); (try clear hi); (try clear ho0)
        refine hK.out _ _ ⟨(bc aA.out 0).trans rfl, (bc aA.out 1).trans rfl, (bc aA.out 2).trans rfl, (ZC HB.out aE :)⟩ (fun hHeld => ?_)
        clear hK K
        refine norm_ (a' := ?_) ?_ ?_
        rotate_left
        ·show Act.put _ (some 24) _ = _
         simp only [Act.put, List.setIfInBounds_toArray, List.set_cons_zero, List.set_cons_succ, i64_w, i32_w]
         rfl
        refine oU 10 (some 29) #[T,T,T,T,T,T,T,T,T,T,T,T,T,F,T,T,F,F,F,F,F,F] (fun K hK => ?_)
        refine goes_ Try.func31 (by kernel_rfl) rfl #[.slice (some a3) bP.length aW] (by rfl) rfl rfl Z23 ?_
        with_reducible refine (spec_copyStores.calls dK _ _ bP cG _ ?s1 ?s2 fD.out).mono ?_
        (case s1 => exact Z5 b1.out)
        (case s2 => exact cO.out)
        rintro e fR ⟨cP, rfl, ho0, hb⟩
        refine ⟨_, rfl, ?_⟩
        have aN := A_ (Kd.R_lower (Kd.R_new' ho0 (Kd.S_lt (Z29 aK.out))) (bz (Z4 aH.out aJ.out))); replace aK := A_ (Kd.S_below (Z29 aK.out) hb); replace aA := A_ (bb (Z0 aA.out) hb); replace aD := A_ (bb (Z0 aD.out) hb); replace HB := A_ (bst (Z4 aH.out aJ.out) hb); (try clear hb); (try clear eL); (try clear hk); (try clear hi); (try clear ho0)
        refine hK.out _ _ ⟨(bc aA.out 0).trans rfl, (bc aA.out 1).trans rfl, (bc aA.out 2).trans rfl, (ZC HB.out aE :)⟩ (fun hHeld => ?_)
        clear hK K
        refine norm_ (a' := ?_) ?_ ?_
        rotate_left
        ·show Act.put _ (some 29) _ = _
         simp only [Act.put, List.setIfInBounds_toArray, List.set_cons_zero, List.set_cons_succ, i64_w, i32_w]
         rfl
        refine oU 13 (some 32) #[T,T,T,T,T,T,T,T,T,T,T,T,T,T,T,T,F,F,F,F,F,F] (fun K hK => ?_)
        refine goes_ Try.func31 (by kernel_rfl) rfl #[.slice a0 aR.length a1] (by rfl) rfl rfl Z23 ?_
        with_reducible refine (spec_copyStores.calls dK _ _ aR bQ _ ?s1 ?s2 fE.out).mono ?_
        (case s1 => exact Z5 bH.out)
        (case s2 => exact bI.out)
        rintro e fS ⟨cQ, rfl, ho0, hb⟩
        refine ⟨_, rfl, ?_⟩
        have aU := A_ (Kd.R_lower (Kd.R_new' (Kd.R_new' ho0 (Kd.S_lt (Z29 aK.out))) (Kd.R_lt (Z12 aN.out))) (bz (Z4 aH.out aJ.out))); replace aK := A_ (Kd.S_below (Z29 aK.out) hb); replace aN := A_ (Kd.R_elder' (Z12 aN.out) (Kd.R_base ho0) hb); replace aA := A_ (bb (Z0 aA.out) hb); replace aD := A_ (bb (Z0 aD.out) hb); replace HB := A_ (bst (Z4 aH.out aJ.out) hb); (try clear hb); (try clear eL); (try clear hk); (try clear hi); (try clear ho0)
        refine hK.out _ _ ⟨(bc aA.out 0).trans rfl, (bc aA.out 1).trans rfl, (bc aA.out 2).trans rfl, (ZC HB.out aE :)⟩ (fun hHeld => ?_)
        clear hK K
        refine norm_ (a' := ?_) ?_ ?_
        rotate_left; (·exact Z100)
        refine oU 16 (some 35) #[T,T,T,T,T,T,T,T,T,T,T,T,T,T,T,T,T,F,F,F,F,F] (fun K hK => ?_)
        refine goes_ Try.func30 (by kernel_rfl) rfl #[.slice aY aQ.length aZ] (by rfl) rfl rfl Z23 ?_
        with_reducible refine (spec_copyStore.calls dK _ _ aQ bJ _ ?s1 ?s2 fF.out).mono ?_
        (case s1 => exact Z5 bE.out)
        (case s2 => exact bF.out)
        rintro e fT ⟨fI, rfl, ho0, hb⟩
        refine ⟨_, rfl, ?_⟩
        replace aN := A_ (Kd.R_elder' (Z12 aN.out) (Kd.S_base ho0) hb); replace aU := A_ (Kd.R_elder' (Z12 aU.out) (Kd.S_base ho0) hb); have bM := A_ (Kd.S_lower (Kd.S_new' ho0 (Kd.S_lt (Z29 aK.out))) (bz (Z4 aH.out aJ.out))); replace aK := A_ (Kd.S_elder' (Z29 aK.out) (Kd.S_base ho0) hb); replace aA := A_ (bb (Z0 aA.out) hb); replace aD := A_ (bb (Z0 aD.out) hb); replace HB := A_ (bst (Z4 aH.out aJ.out) hb); (try clear hb); (try clear eL); (try clear hk); (try clear hi); (try clear ho0); obtain ⟨cR, cS, cT⟩ := Kd.S_slice bM.out; (first | subst cT | (injection cT with bN b9 bO; have cA := bN.symm; have cB := bO.symm; clear bN b9 bO; subst cA; subst cB))
        refine hK.out _ _ ⟨(bc aA.out 0).trans rfl, (bc aA.out 1).trans rfl, (bc aA.out 2).trans rfl, (ZC HB.out aE :)⟩ (fun hHeld => ?_)
        clear hK K
        refine norm_ (a' := ?_) ?_ ?_
        rotate_left; (·exact Z58)
        refine oU 17 (some 36) M54 (fun K hK => ?_)
        refine value_ (w1 := ?_) (v := ?_) (by rfl) rfl ?_ ?_
        rotate_left 2
        ·go_simp
         constructor
         ·rfl
         ·rfl
        refine hK.out _ _ ⟨(bc (ba aA.out _) 0).trans rfl, (bc (ba aA.out _) 1).trans rfl, (bc (ba aA.out _) 2).trans rfl, (World.cell?_alloc_lt _ _ _ (World.block_lt_of_cell? _ _ ((ZC HB.out aE :)))).trans ((ZC HB.out aE :))⟩ (fun hHeld => ?_)
        clear hK K
        refine norm_ (a' := ?_) ?_ ?_
        rotate_left
        ·show Act.put _ (some 36) _ = _
         simp only [Act.put, List.setIfInBounds_toArray, List.set_cons_zero, List.set_cons_succ, i64_w, i32_w]
         rfl
        refine oU 18 (some 37) M55 (fun K hK => ?_)
        refine Kd.R_append_step (Kd.slice 72 k72) (w0 := w) w.heap.size (by rfl) (.tmp 32) (.tmp 36) 24 23 (.slice none 0 0) 24 rfl Try.underlying24 info23 rfl (by decide) (by omega) cQ bQ bJ [.slice cR bJ.length cS] (fun k_ => some k_ ≠ (b8 : Value).ownBlock ∧ some k_ ≠ (cP : Value).ownBlock) (fun k_ => ((fun k_ => some k_ ≠ (b8 : Value).ownBlock ∧ some k_ ≠ (cP : Value).ownBlock)) k_ ∧ some k_ ≠ (cQ : Value).ownBlock) rfl rfl ?aP (fun _ hk => hk) ?aF ?aO ?aB ?aS ?aL ?_
        (case aP => exact Kd.M_row (Rm (Kd.R_apart' (Kd.R_apart' ((Kd.S_R bM.out)) (Kd.R_typed aN.out) (by decide)) (Kd.R_typed aU.out) (by decide)) (fun k_ hk => ⟨⟨hk.1.1.2, hk.1.2⟩, hk.2⟩)))
        (case aB => exact (Z4 aH.out aJ.out))
        (case aF => exact (fun k_ hk => ⟨Kd.fresh' (Kd.S_lt (Z29 aK.out)) k_ hk, Kd.fresh' (Kd.R_lt (Z12 aN.out)) k_ hk⟩))
        (case aO => exact (by (with_reducible repeat (first | apply Kd.R_alloc | apply Kd.R_drewN | apply Kd.R_drew)); exact Rm aU.out (fun _ hk => ⟨hk.1.1.2, hk.1.2⟩)))
        (case aS => exact (bz (Z4 aH.out aJ.out)))
        (case aL => have := cK.out; omega)
        intro fJ eM ho hb hg hat
        rw [← cL.out] at ho; replace aA := A_ (blk_grown (Z0 aA.out) hg (Kd.R_ne aU.out aA.out (by decide))); replace aD := A_ (blk_grown (Z0 aD.out) hg (Kd.R_ne aU.out aD.out (by decide))); replace aK := A_ (Kd.S_over' (Z29 aK.out) (Kd.R_typed (Z12 aU.out)) (by decide) hg); replace aN := A_ (Kd.R_after (ok := (fun k_ => some k_ ≠ (b8 : Value).ownBlock ∧ ob k_ cR bJ cS)) (by (with_reducible repeat (first | apply Kd.R_alloc | apply Kd.R_drewN | apply Kd.R_drew)); exact Rm aN.out (fun _ hk => ⟨⟨hk.1.1.2, hk.2⟩, hk.1.2⟩)) hg hat); replace HB := A_ hb; have b2 := A_ ho; clear aU; clear bM; clear ho hb hg hat; obtain ⟨eN, eO, cU⟩ := Kd.R_slice b2.out; (first | subst cU | (injection cU with bN b9 bO; have cA := bN.symm; have cB := bO.symm; clear bN b9 bO; subst cA; subst cB)); obtain ⟨eP, eQ, cV⟩ := Kd.R_slice aN.out; (first | subst cV | (injection cV with bN b9 bO; have cA := bN.symm; have cB := bO.symm; clear bN b9 bO; subst cA; subst cB)); obtain ⟨eR, eS, cW⟩ := Kd.S_slice aK.out; (first | subst cW | (injection cW with bN b9 bO; have cA := bN.symm; have cB := bO.symm; clear bN b9 bO; subst cA; subst cB))
        refine hK.out _ _ ⟨(bc aA.out 0).trans rfl, (bc aA.out 1).trans rfl, (bc aA.out 2).trans rfl, (ZC HB.out aE :)⟩ (fun hHeld => ?_)
        clear hK K
        refine norm_ (a' := ?_) ?_ ?_
        rotate_left; (·exact Z99); refine pU 19 38 M56 ?_
        refine oU 20 none M57 (fun K hK => ?_)
        have fK : eM.cell? ⟨aT, 0, none⟩ = some (.slice none 0 0) := (bc aD.out 0).trans rfl; have e5 := blk_frozen aD.out 0; have d1 := aC.out; have d2 := aI.out; have fL : eM.cell? ⟨aT, 1, none⟩ = some (.slice none 0 0) := (bc aD.out 1).trans rfl; have e6 := blk_frozen aD.out 1; have d3 := aC.out; have d4 := aI.out; have fM : eM.cell? ⟨aT, 2, none⟩ = some (.slice none 0 0) := (bc aD.out 2).trans rfl; have e7 := blk_frozen aD.out 2; have d5 := aC.out; have d6 := aI.out
        refine skip_ (w1 := ?_) (by rfl) rfl ?_ ?_
        rotate_left
        ·go_simp
         rfl
        refine hK.out _ _ ⟨(cf aC.out (cf aC.out (cf aC.out hHeld.1))), (cf aC.out (cf aC.out (cf aC.out hHeld.2.1))), (cf aC.out (cf aC.out (cf aC.out hHeld.2.2.1))), (cf (nb aE a5.out) (cf (nb aE a5.out) (cf (nb aE a5.out) hHeld.2.2.2)))⟩ (fun hHeld => ?_)
        clear hK K; refine pU 21 3 M58 ?_
        refine done_ (done_of HT_.out (by kernel_rfl)) ?_
        try go_wp2
        refine bodyPost_ret (results_ct rfl _ _ aT 26 #[.slice eR cD.length eS, .slice eP cG.length eQ, .slice eN eI.length eO] (0, 0) _ rfl (bp0 aD.out) Try.underlying26 rfl (by kernel_rfl)) rfl ?_
        exact ⟨_, _, _, by first | rfl | (simp [errW_none, errW_some] <;> rfl) | (simp only [← a2]; first | rfl | (simp [errW_none, errW_some] <;> rfl)) | (simp [*, errW_none, errW_some] <;> rfl), Z56 aK.out aD.out, by (with_reducible repeat (first | apply Kd.R_alloc | apply Kd.R_drewN | apply Kd.R_drew)); exact Rm (Rf (Rf (Rf (Kd.R_types aN.out aD.out (by decide))))) (fun _ hk => ⟨hk.1.1.1, hk.1.2⟩), by (with_reducible repeat (first | apply Kd.R_alloc | apply Kd.R_drewN | apply Kd.R_drew)); exact Rm (Rf (Rf (Rf (Kd.R_types b2.out aD.out (by decide))))) (fun _ hk => ⟨hk.1.1, hk.1.2⟩), Z4 aH.out aJ.out⟩
       ·rw [if_neg dU] at H
        exact absurd H (by simp)
      ·rw [if_neg cF] at H
       exact absurd H (by simp)
     ·rw [if_neg dT] at H
      exact absurd H (by simp)
    ·rw [if_neg dS] at H
     exact absurd H (by simp)
def IsS66 (w0 W : World) (g : Nat) (f0 : List Int) (f1 : Int) (f2 : Int) : Prop := ∃ A0 c0, W.heap[g]? = some (.cells #[.slice A0 f0.length c0, .int .i64 f1, .int .i64 f2] 66 (0, 0)) ∧ w0.heap.size ≤ g ∧ Kd.C (Kd.int .u8) w0 A0 f0.length f0
theorem IsS66.grown {w0 W : World} {g : Nat} {f0 : List Int} {f1 : Int} {f2 : Int} {W1 : World} {row : Option Nat} (h : IsS66 w0 W g f0 f1 f2) (hw : W.grownBy W1 row) (hne : some g ≠ row) : IsS66 w0 W1 g f0 f1 f2 := by
 obtain ⟨A0, c0, hb, hg, aA⟩ := h
 exact ⟨A0, c0, blk_grown hb hw hne, hg, aA⟩
theorem IsS66.own_neN {w0 W : World} {g : Nat} {f0 : List Int} {f1 : Int} {f2 : Int} {α : Type} {d : Kd α} {e : Nat} {base : Nat} {ok : Nat → Prop} {v : Value} {xs : List α} (h : IsS66 w0 W g f0 f1 f2) (ho : Kd.N d e W base ok v xs) (ht : e ≠ 66) : some g ≠ v.ownBlock := by
 obtain ⟨A0, c0, hb, hg, aA⟩ := h
 exact Kd.N_ne ho hb ht
theorem IsS66.fresh {w0 W : World} {g : Nat} {f0 : List Int} {f1 : Int} {f2 : Int} (h : IsS66 w0 W g f0 f1 f2) : ∀ k, W.heap.size ≤ k → k ≠ g := by
 obtain ⟨A0, c0, hb, hg, aA⟩ := h
 exact Kd.freshB hb
theorem IsS66.kept {w0 W : World} {g : Nat} {f0 : List Int} {f1 : Int} {f2 : Int} {W1 : World} {S : Nat → Prop} (h : IsS66 w0 W g f0 f1 f2) (hk : Kept W W1 S) (hne : ¬ S g) : IsS66 w0 W1 g f0 f1 f2 := by
 obtain ⟨A0, c0, hb, hg, aA⟩ := h
 exact ⟨A0, c0, blk_kept hb hk hne, hg, aA⟩
theorem IsS66.below {w0 W : World} {g : Nat} {f0 : List Int} {f1 : Int} {f2 : Int} {W1 : World} (h : IsS66 w0 W g f0 f1 f2) (hw : Below W.heap.size W W1) : IsS66 w0 W1 g f0 f1 f2 := h.grown (grown_of_below hw none) (by simp)
abbrev Ib := @IsS66.below
theorem IsS66.alloc {w0 W : World} {g : Nat} {f0 : List Int} {f1 : Int} {f2 : Int} (h : IsS66 w0 W g f0 f1 f2) (o : Obj) : IsS66 w0 (W.alloc o) g f0 f1 f2 := h.below (below_alloc (Below.refl _ _) o)
theorem IsS66.drewN {w0 W : World} {g : Nat} {f0 : List Int} {f1 : Int} {f2 : Int} (h : IsS66 w0 W g f0 f1 f2) (m : Nat) : IsS66 w0 (W.drewN m) g f0 f1 f2 := h
theorem IsS66.drew {w0 W : World} {g : Nat} {f0 : List Int} {f1 : Int} {f2 : Int} (h : IsS66 w0 W g f0 f1 f2) : IsS66 w0 W.drew g f0 f1 f2 := h
theorem IsS66.apart {w0 W : World} {g : Nat} {f0 : List Int} {f1 : Int} {f2 : Int} {α : Type} {d : Kd α} {e : Nat} {base : Nat} {ok : Nat → Prop} {v : Value} {xs : List α} (h : IsS66 w0 W g f0 f1 f2) (ho : d.R e W base ok v xs) (ht : ∀ q, q ∈ e :: d.E → q ≠ 66) : d.R e W base (fun k => ok k ∧ k ≠ g) v xs := by
 obtain ⟨A0, c0, hb, hg, aA⟩ := h
 exact Kd.R_types ho hb ht
theorem IsS66.own_ne {w0 W : World} {g : Nat} {f0 : List Int} {f1 : Int} {f2 : Int} {α : Type} {d : Kd α} {e : Nat} {base : Nat} {ok : Nat → Prop} {v : Value} {xs : List α} (h : IsS66 w0 W g f0 f1 f2) (ho : d.R e W base ok v xs) (ht : e ≠ 66) : some g ≠ v.ownBlock := by
 obtain ⟨A0, c0, hb, hg, aA⟩ := h
 exact Kd.R_ne ho hb ht
theorem IsS66.apartS {w0 W : World} {g : Nat} {f0 : List Int} {f1 : Int} {f2 : Int} {α : Type} {d : Kd α} {e : Nat} {base : Nat} {ok : Nat → Prop} {v : Value} {xs : List α} (h : IsS66 w0 W g f0 f1 f2) (ho : d.S e W base ok v xs) (ht : ∀ q, q ∈ e :: d.E → q ≠ 66) : d.S e W base (fun k => ok k ∧ k ≠ g) v xs := by
 obtain ⟨A0, c0, hb, hg, aA⟩ := h
 exact Kd.S_types ho hb ht
theorem IsS66.own_neS {w0 W : World} {g : Nat} {f0 : List Int} {f1 : Int} {f2 : Int} {α : Type} {d : Kd α} {e : Nat} {base : Nat} {ok : Nat → Prop} {v : Value} {xs : List α} (h : IsS66 w0 W g f0 f1 f2) (ho : d.S e W base ok v xs) (ht : e ≠ 66) : some g ≠ v.ownBlock := by
 obtain ⟨A0, c0, hb, hg, aA⟩ := h
 exact Kd.S_ne ho hb ht
theorem IsS66.lt {w0 W : World} {g : Nat} {f0 : List Int} {f1 : Int} {f2 : Int} (h : IsS66 w0 W g f0 f1 f2) : g < W.heap.size := by
 obtain ⟨A0, c0, hb, hg, aA⟩ := h
 exact blk_lt hb
abbrev Il := @IsS66.lt
theorem IsS66.ge {w0 W : World} {g : Nat} {f0 : List Int} {f1 : Int} {f2 : Int} (h : IsS66 w0 W g f0 f1 f2) : w0.heap.size ≤ g := by
 obtain ⟨A0, c0, hb, hg, aA⟩ := h
 exact hg
theorem IsS66.ne_blk {w0 W : World} {g : Nat} {f0 : List Int} {f1 : Int} {f2 : Int} {a : Nat} {cs : Array Value} {t : TypeId} {fr : Nat × Nat} (h : IsS66 w0 W g f0 f1 f2) (aA : W.heap[a]? = some (.cells cs t fr)) (ht : t ≠ 66) : g ≠ a := by
 obtain ⟨A0, c0, hb, hg, aC⟩ := h
 rintro rfl
 rw [hb] at aA; injection aA with aA; injection aA with _ aB
 exact ht aB.symm
theorem IsS66.far {w0 W : World} {g : Nat} {f0 : List Int} {f1 : Int} {f2 : Int} {p : Addr} (h : IsS66 w0 W g f0 f1 f2) (hne : g ≠ p.block) (u : Value) : IsS66 w0 (W.setCell p u) g f0 f1 f2 := by
 obtain ⟨A0, c0, hb, hg, aA⟩ := h
 exact ⟨A0, c0, blk_far hb hne u, hg, aA⟩
theorem cellS66_0 {W : World} {g : Nat} {A0 : Option Addr} {c0 : Nat} {f0 : List Int} {f1 : Int} {f2 : Int} (h : W.heap[g]? = some (.cells #[.slice A0 f0.length c0, .int .i64 f1, .int .i64 f2] 66 (0, 0))) : W.cell? ⟨g, 0, none⟩ = some (.slice A0 f0.length c0) := (bc h 0).trans rfl
theorem cellS66_1 {W : World} {g : Nat} {A0 : Option Addr} {c0 : Nat} {f0 : List Int} {f1 : Int} {f2 : Int} (h : W.heap[g]? = some (.cells #[.slice A0 f0.length c0, .int .i64 f1, .int .i64 f2] 66 (0, 0))) : W.cell? ⟨g, 1, none⟩ = some (.int .i64 f1) := (bc h 1).trans rfl
theorem IsS66.set_1 {w0 W : World} {g : Nat} {f0 : List Int} {f1 : Int} {f2 : Int} (h : IsS66 w0 W g f0 f1 f2) (x : Int) : IsS66 w0 (W.setCell ⟨g, 1, none⟩ (.int .i64 x)) g f0 x f2 := by
 obtain ⟨A0, c0, hb, hg, aA⟩ := h
 exact ⟨A0, c0, by simpa using blk_set hb 1 (.int .i64 x), hg, aA⟩
theorem cellS66_2 {W : World} {g : Nat} {A0 : Option Addr} {c0 : Nat} {f0 : List Int} {f1 : Int} {f2 : Int} (h : W.heap[g]? = some (.cells #[.slice A0 f0.length c0, .int .i64 f1, .int .i64 f2] 66 (0, 0))) : W.cell? ⟨g, 2, none⟩ = some (.int .i64 f2) := (bc h 2).trans rfl
theorem IsS66.set_2 {w0 W : World} {g : Nat} {f0 : List Int} {f1 : Int} {f2 : Int} (h : IsS66 w0 W g f0 f1 f2) (x : Int) : IsS66 w0 (W.setCell ⟨g, 2, none⟩ (.int .i64 x)) g f0 f1 x := by
 obtain ⟨A0, c0, hb, hg, aA⟩ := h
 exact ⟨A0, c0, by simpa using blk_set hb 2 (.int .i64 x), hg, aA⟩
def spec_newSource.f (l0 : List Int) : Option (List Int × Int × Int) := some (l0, 0, 4000)
theorem spec_newSource.calls (A0 : Option Addr) (c0 : Nat) (l0 : List Int) (r1 : List Int) (r2 : Int) (r3 : Int) (w0 w : World) (hB : Below w0.heap.size w0 w) (aE : Kd.C (Kd.int .u8) w0 A0 l0.length l0) (hc0 : l0.length ≤ c0) (h : spec_newSource.f l0 = some (r1, r2, r3)) :
  Calls Try.prog 20 #[.slice A0 l0.length c0] w fun e w' => ∃ g_ : Nat, e = .returned (.pointer (some ⟨g_, 0, none⟩)) ∧ IsS66 w0 w' g_ r1 r2 r3 ∧ Below w0.heap.size w0 w' ∧ Below w.heap.size w w' := by
 have aF := Try.underlying66; have aG := A_ aE; have aI := A_ hc0; clear aE hc0; have HBW := A_ (Below.refl w.heap.size w); have aH := A_ hB.size; have HB := A_ hB; clear hB; have H := h; unfold spec_newSource.f at H; clear h; simp only [Option.some.injEq, Prod.mk.injEq] at H; obtain ⟨rfl, rfl, rfl⟩ := H
 go_enter Try.func20, Try.ntmps20
 go_wp2_with (first | ((with_reducible refine gate_dst (N := 5) rfl ?_); refine be (cs := #[.slice A0 l0.length c0, .int .i64 0, .int .i64 4000]) (t := 66) ?_; intro aA hg w2 hbox hb; replace HB := A_ (bst Z2 hb); have aC := A_ hbox; have aD := A_ (gl hg (bz (by repeat (first | (with_reducible first | exact HBW.out | apply below_alloc | apply pw_below_drewN | apply below_drew1) | exact HBW.out)))); have aB := A_ ((Nat.le_trans aH.out (by rw [hg]; exact (bz (by repeat (first | (with_reducible first | exact HBW.out | apply below_alloc | apply pw_below_drewN | apply below_drew1) | exact HBW.out))) : w.heap.size ≤ aA) : w0.heap.size ≤ aA)); replace HBW := A_ (bst HBW.out hb); clear hb hbox hg))
 go_ret
 exact ⟨_, rfl, (show IsS66 w0 _ aA l0 0 4000 from ⟨_, _, Z0 aC.out, aB.out, aG.out⟩), Z3 aB.out, by repeat (first | (with_reducible first | exact HBW.out | apply below_alloc | apply pw_below_drewN | apply below_drew1 | refine below_set ?_ aD.out) | exact HBW.out)⟩
end Go.Proofs.Ytgbbcebjgpoioaa.PFnHistRedo
