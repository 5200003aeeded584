/- Walks (lines of the print; no condition). -/
import Derived.Test.YtgbbcebjgpoioaaZFnHistRedoQFnHistRedox21
import Derived.Test.YtgbbcebjgpoioaaZFnHistRedoQFnHistRedox22
namespace Go.Proofs.Ytgbbcebjgpoioaa.PFnHistRedo
open Go.RowKit Go.Proofs.YtgbbcebjgpoioaaW.PrintWords Go.Proofs.YtgbbcebjgpoioaaW.PrintLast Go.Proofs.YtgbbcebjgpoioaaW.PrintMore
attribute [local go_sem] max2_int min2_int max_two min_two max_three min_three max_four min_four
set_option linter.unusedVariables false
set_option linter.unusedSimpArgs false
def spec_HistDo.j0 : Nat → List (S77) → Bool → List (S72) → List (List (S72)) → List (List (S72)) → Option ((List (S72)) × (List (List (S72))) × (List (List (S72))))
 | 0, _, _, _, _, _ => none
 | k + 1, x1, aM, aA, aB, aD => if aM = true then (some (([] : List (S72)), ([] : List (List (S72))), ([] : List (List (S72))))) else ((spec_storeRun.f k aA x1).bind fun aH => ((spec_copyStore.f k aH).bind fun aF => ((spec_sameStore.f k aF aA).bind fun aI => (if aI = true then ((spec_copyHist.f k aA aB aD).bind fun aC => (some (aC.1, aC.2.1, aC.2.2))) else ((spec_copyStores.f k aB).bind fun aG => ((spec_copyStore.f k aA).bind fun aJ => (if aG.length < 5864062014805 then ((some (aG ++ [aJ] : List (List (S72)))).bind fun aE => (if (aE.length : Int) > 6 then (if 1 ≤ (aE.length : Int) then ((spec_copyStores.f k (aE.drop (1 : Int).toNat)).bind fun aK => (some (aF, aK, ([] : List (List (S72)))))) else (none)) else ((spec_copyStores.f k aE).bind fun aL => (some (aF, aL, ([] : List (List (S72)))))))) else (none))))))))
def spec_HistDo.f (k : Nat) (aA : List (S72)) (aB : List (List (S72))) (aC : List (List (S72))) (l1 : List (S77)) : Option ((List (S72)) × (List (List (S72))) × (List (List (S72)))) := (spec_validHist.f k aA aB aC).bind fun aD => (if aD = true then ((spec_validUpdates.f k l1).bind fun aE => (spec_HistDo.j0 k l1 (!aE) aA aB aC)) else (spec_HistDo.j0 k l1 true aA aB aC))
def spec_HistDo.T6 : Bool × List (List Nat × List Nat) := (true, [([], []), ([0], [0]), ([1], [1]), ([], []), ([3], [3]), ([4, 2], [4]), ([5], [5]), ([2, 6, 5], [2, 6]), ([7, 7, 0, 1, 2, 3, 4, 5, 6, 7], [7])])
def spec_HistDo.B6 : List Nat := [0, 1, 3, 0, 8, 31, 63, 127, 255]
theorem spec_HistDo.tab6 : rtab .any (opsOf Try.f26 6) = spec_HistDo.T6 := by kernel_rfl
theorem spec_HistDo.bits6 : waitsOk spec_HistDo.T6.2 spec_HistDo.B6 = true := by kernel_rfl
set_option maxHeartbeats 8000000 in
set_option maxRecDepth 100000 in
theorem spec_HistDo.calls (k : Nat) (aU : Option Addr) (aV : Nat) (aJ : List (S72)) (aX : Option Addr) (aY : Nat) (aN : List (List (S72))) (a2 : Option Addr) (a3 : Nat) (aW : List (List (S72))) (A1 : Option Addr) (c1 : Nat) (l1 : List (S77)) (r1 : List (S72)) (r2 : List (List (S72))) (r3 : List (List (S72))) (w : World) (bY : Kd.C k72 w aU aJ.length aJ) (bZ : aJ.length ≤ aV) (b0 : Kd.C (Kd.slice 72 k72) w aX aN.length aN) (b1 : aN.length ≤ aY) (b2 : Kd.C (Kd.slice 72 k72) w a2 aW.length aW) (b3 : aW.length ≤ a3) (hr1 : Kd.C k77 w A1 l1.length l1) (iD : l1.length ≤ c1) (h : spec_HistDo.f k aJ aN aW l1 = some (r1, r2, r3)) :
  Calls Try.prog 26 #[.agg #[.slice aU aJ.length aV, .slice aX aN.length aY, .slice a2 aW.length a3], .slice A1 l1.length c1] w fun e w' => ∃ d5 gH gI : Value, e = .returned (.agg #[d5, gH, gI]) ∧ Kd.S k72 72 w' w.heap.size (fun _ => True) d5 r1 ∧ Kd.R (Kd.slice 72 k72) 23 w' w.heap.size (fun k_ => some k_ ≠ (d5 : Value).ownBlock ∧ some k_ ≠ (gI : Value).ownBlock) gH r2 ∧ Kd.R (Kd.slice 72 k72) 23 w' w.heap.size (fun k_ => some k_ ≠ (d5 : Value).ownBlock ∧ some k_ ≠ (gH : Value).ownBlock) gI r3 ∧ Below w.heap.size w w' := by
 have iU := Try.underlying26; have aZ := A_ bY; have a0 := A_ bZ; clear bY bZ; have bA := A_ b0; have bB := A_ b1; clear b0 b1; have bP := A_ b2; have bQ := A_ b3; clear b2 b3; have d6 := A_ hr1; have d7 := A_ iD; clear hr1 iD; have HB := A_ (Below.refl w.heap.size w); have H := h; unfold spec_HistDo.f at H; clear h; have gJ := A_ H; clear H
 go_enter Try.func26, Try.ntmps26
 go_upto_region 1 with (first | ((with_reducible refine gate_dst (N := 2) rfl ?_); refine be (cs := #[.slice aU aJ.length aV, .slice aX aN.length aY, .slice a2 aW.length a3]) (t := 26) ?_; intro aI hg w4 hbox hb; have aA := A_ hbox; have bH := A_ (gl hg (bz Z2)); have aG := bH; replace HB := A_ (bst Z2 hb); clear hb hbox hg) | ((with_reducible refine gate_dst (N := 4) rfl ?_); refine be (cs := #[.slice none 0 0, .slice none 0 0, .slice none 0 0]) (t := 26) ?_; intro aK hg w5 hbox hb; have aC := A_ hbox; have bI := A_ (gl hg (bz (Z3 aG.out))); have aH := bI; replace HB := A_ (bst (Z3 aG.out) hb); have aR := A_ ((by rw [hg]; exact nl (blk_lt (Z0 aA.out)) : aI ≠ aK)); have aT := A_ ((by rw [hg]; exact Nat.ne_of_gt (blk_lt (Z0 aA.out)) : aK ≠ aI)); replace aA := A_ (bb (Z0 aA.out) hb); clear hb hbox hg))
 (try simp only [Act.put, List.setIfInBounds_toArray, List.set_cons_zero, List.set_cons_succ])
 go_cut [14] (fun iV wc => ∃ (kq : Nat) (bJ : Bool), iV = .bool bJ ∧ Aside0 (spec_HistDo.j0 kq l1 bJ aJ aN aW = some (r1, r2, r3)) ∧ Aside0 (kq ≤ k) ∧ Aside0 (wc.heap[aI]? = some (.cells #[(.slice aU aJ.length aV), (.slice aX aN.length aY), (.slice a2 aW.length a3)] 26 (0, 0))) ∧ Aside0 (wc.heap[aK]? = some (.cells #[(.slice none 0 0), (.slice none 0 0), (.slice none 0 0)] 26 (0, 0))) ∧ Aside0 (Below w.heap.size w wc))
 case first =>
  have H := gJ.out; clear gJ; replace H := bS H; obtain ⟨gK, iE, H⟩ := H
  try dsimp only at H
  have A6 := A_ iE; clear iE
  by_cases c7 : gK = true
  ·subst c7
   rw [if_pos rfl] at H; replace H := bS H; obtain ⟨cP, iF, H⟩ := H
   try dsimp only at H
   have A8 := A_ iF; clear iF; have H' := A_ H; clear H; have iW := aR.out; have iX := aT.out; obtain ⟨d8, d9, eA, eB, eC, eD⟩ := C3 aA.out
   go_wp2_with (first | ((with_reducible refine gate_callee (f := 24) rfl ?_); refine gL 8 Try.func24 #[.agg #[.slice aU aJ.length aV, .slice aX aN.length aY, .slice a2 aW.length a3]] ?_; (with_reducible refine (spec_validHist.calls k _ _ aJ _ _ aN _ _ aW true _ ?s1 a0.out ?s3 bB.out ?s5 bQ.out A6.out).mono ?_); (case s1 => exact Z5 aZ.out); (case s3 => exact Z5 bA.out); (case s5 => exact Z5 bP.out); rintro e jE ⟨rfl, hb⟩; refine ⟨_, rfl, ?_⟩; replace aA := A_ (bb (Z0 aA.out) hb); replace aC := A_ (bb (Z0 aC.out) hb); replace HB := A_ (bst (Z4 aG.out aH.out) hb); (try clear hb)) | (go_at_call 25; (with_reducible refine (spec_validUpdates.calls k _ _ l1 cP _ ?s1 d7.out A8.out).mono ?_); (case s1 => exact Z5 d6.out); rintro e jF ⟨rfl, hb⟩; replace aA := A_ (bb (Z0 aA.out) hb); replace aC := A_ (bb (Z0 aC.out) hb); replace HB := A_ (bst (Z4 aG.out aH.out) hb); (try clear hb)))
   go_meet
   case rel => exact ⟨_, (!cP), Z26, H', ⟨Z85⟩, ⟨Z0 aA.out⟩, ⟨Z0 aC.out⟩, ⟨Z4 aG.out aH.out⟩⟩
  ·replace c7 := Bool.eq_false_iff.mpr c7
   subst c7; rw [if_neg (show ¬ (false = true) by decide)] at H; have H' := A_ H; clear H; have iG := aR.out; have iH := aT.out; obtain ⟨eE, eF, eG, eH, eI, eJ⟩ := C3 aA.out
   go_wp2_with (first | ((with_reducible refine gate_callee (f := 24) rfl ?_); refine gL 8 Try.func24 #[.agg #[.slice aU aJ.length aV, .slice aX aN.length aY, .slice a2 aW.length a3]] ?_; (with_reducible refine (spec_validHist.calls k _ _ aJ _ _ aN _ _ aW false _ ?s1 a0.out ?s3 bB.out ?s5 bQ.out A6.out).mono ?_); (case s1 => exact Z5 aZ.out); (case s3 => exact Z5 bA.out); (case s5 => exact Z5 bP.out); rintro e jG ⟨rfl, hb⟩; refine ⟨_, rfl, ?_⟩; replace aA := A_ (bb (Z0 aA.out) hb); replace aC := A_ (bb (Z0 aC.out) hb); replace HB := A_ (bst (Z4 aG.out aH.out) hb); (try clear hb)))
   go_meet
   case rel => exact ⟨_, (true), Z26, H', ⟨Z85⟩, ⟨Z0 aA.out⟩, ⟨Z0 aC.out⟩, ⟨Z4 aG.out aH.out⟩⟩
 case rest =>
  clear gJ; try clear c1
  try clear c7
  obtain ⟨kq, bJ, rfl, HA, jH, aA, aC, HB⟩ := hcut
  cases kq with
  | zero => exact absurd HA.out (by simp [spec_HistDo.j0])
  | succ bD =>
   have H := HA.out; clear HA; simp only [spec_HistDo.j0] at H
   by_cases eK : bJ = true
   ·subst eK
    rw [if_pos rfl] at H; simp only [Option.some.injEq, Prod.mk.injEq] at H; obtain ⟨rfl, rfl, rfl⟩ := H; have iI := aT.out; have iJ := aR.out; obtain ⟨eL, eM, eN, eO, eP, eQ⟩ := C3 aC.out
    go_wp2
    refine bodyPost_ret (results_cell_row rfl _ _ aK 26 #[.slice none 0 0, .slice none 0 0, .slice none 0 0] (0, 0) _ rfl (bp0 aC.out) Try.underlying26 rfl (by kernel_rfl)) rfl ?_
    exact ⟨_, _, _, Z11, Z96, Z44, Z44, Z4 aG.out aH.out⟩
   ·replace eK := Bool.eq_false_iff.mpr eK
    subst eK; rw [if_neg (show ¬ (false = true) by decide)] at H; replace H := bS H; obtain ⟨a4, cQ, H⟩ := H
    try dsimp only at H
    have gM := A_ cQ; clear cQ; replace H := bS H; obtain ⟨aM, cR, H⟩ := H
    try dsimp only at H
    have gN := A_ cR; clear cR; replace H := bS H; obtain ⟨gO, cS, H⟩ := H
    try dsimp only at H
    have gP := A_ cS; clear cS
    by_cases eR : gO = true
    ·subst eR
     rw [if_pos rfl] at H; replace H := bS H; obtain ⟨⟨cT, cU, cV⟩, cW, H⟩ := H
     try dsimp only at H
     have iY := A_ cW; clear cW; simp only [Option.some.injEq, Prod.mk.injEq] at H; obtain ⟨rfl, rfl, rfl⟩ := H; have iK := aR.out; have iL := aT.out; obtain ⟨eS, eT, eU, eV, eW, eX⟩ := C3 aA.out
     go_wp2_with (first | ((with_reducible refine gate_callee (f := 54) rfl ?_); refine gL 19 Try.func54 #[.slice aU aJ.length aV, .slice A1 l1.length c1] ?_; (with_reducible refine (spec_storeRun.calls bD (fun k_ => k_ < w.heap.size) _ _ aJ _ _ l1 a4 _ ?s1 ?s2 d7.out gM.out).mono ?_); (case s1 => exact Kd.V_mk a0.out (Kd.F_below (Kd.C_F k72_heap aZ.out) (Z4 aG.out aH.out))); (case s2 => exact Z5 d6.out); rintro e jI ⟨cX, rfl, ho0, hb⟩; refine ⟨_, rfl, ?_⟩; have aE := A_ (Kd.V_lower (Vm (ok' := fun k_ => k_ ≠ aI ∧ k_ ≠ aK) ho0 (fun k_ hk_ => ⟨Or.elim hk_ (fun hs_ => fun e_ => Nat.not_le.2 hs_ (by rw [e_]; exact bH.out)) (fun hn_ => (Kd.freshB (Z0 aA.out) k_ hn_)), Or.elim hk_ (fun hs_ => fun e_ => Nat.not_le.2 hs_ (by rw [e_]; exact bI.out)) (fun hn_ => (Kd.freshB (Z0 aC.out) k_ hn_))⟩)) (bz (Z4 aG.out aH.out))); replace aA := A_ (bb (Z0 aA.out) hb); replace aC := A_ (bb (Z0 aC.out) hb); replace HB := A_ (bst (Z4 aG.out aH.out) hb); (try clear hb); (try clear ho0); obtain ⟨cY, cZ, gQ⟩ := Kd.V_slice aE.out; subst gQ) | ((with_reducible refine gate_callee (f := 30) rfl ?_); refine gL 20 Try.func30 #[.slice cY a4.length cZ] ?_; (with_reducible refine (spec_copyStore.calls bD _ _ a4 aM _ ?s1 ?s2 gN.out).mono ?_); (case s1 => exact Z38 aE.out); (case s2 => exact Z95 aE.out); rintro e bR ⟨dA, rfl, ho0, hb⟩; refine ⟨_, rfl, ?_⟩; replace aE := A_ (Kd.V_elder' (Z22 aE.out) (Kd.S_base ho0) hb); have aD := A_ (Kd.S_lower ho0 (bz (Z4 aG.out aH.out))); replace aA := A_ (bb (Z0 aA.out) hb); replace aC := A_ (bb (Z0 aC.out) hb); replace HB := A_ (bst (Z4 aG.out aH.out) hb); (try clear hb); (try clear ho0); obtain ⟨eY, eZ, e0, e1, e2, e3⟩ := C3 aA.out; obtain ⟨cJ, cK, gR⟩ := Kd.S_slice aD.out; subst gR) | ((with_reducible refine gate_callee (f := 32) rfl ?_); refine gL 24 Try.func32 #[.slice cJ aM.length cK, .slice aU aJ.length aV] ?_; (with_reducible refine (spec_sameStore.calls bD _ _ aM _ _ aJ true _ ?s1 ?s2 ?s3 a0.out gP.out).mono ?_); (case s1 => repeat (first | exact (Kd.S_reads' aD.out).2.2 | (with_reducible refine Kd.C_alloc ?_ _) | (with_reducible refine Kd.C_drewN ?_ _) | (with_reducible refine Kd.C_drew ?_))); (case s2 => exact (Kd.S_reads' aD.out).2.1); (case s3 => exact Z5 aZ.out); rintro e w' ⟨rfl, ⟨nd, rfl⟩⟩; refine ⟨_, rfl, ?_⟩; (try (rw [drewN_self bR]; generalize hq_ : World.drewN bR _ = bR; have b4 : Aside0 (Kd.V k72 72 bR w.heap.size (fun k_ => some k_ ≠ (.slice cJ aM.length cK : Value).ownBlock ∧ k_ ≠ aI ∧ k_ ≠ aK) (.slice cY a4.length cZ) a4) := ⟨by rw [← hq_]; exact (Z64 aE.out)⟩; have b5 : Aside0 (Kd.S k72 72 bR w.heap.size (fun _ => True) (.slice cJ aM.length cK) aM) := ⟨by rw [← hq_]; exact (Z29 aD.out)⟩; have b6 : Aside0 (bR.heap[aI]? = some (.cells #[.slice aU aJ.length aV, .slice aX aN.length aY, .slice a2 aW.length a3] 26 (0, 0))) := ⟨by rw [← hq_]; exact (Z0 aA.out)⟩; have b7 : Aside0 (bR.heap[aK]? = some (.cells #[.slice none 0 0, .slice none 0 0, .slice none 0 0] 26 (0, 0))) := ⟨by rw [← hq_]; exact (Z0 aC.out)⟩; have b8 : Aside0 (Below w.heap.size w bR) := ⟨by rw [← hq_]; exact (Z4 aG.out aH.out)⟩; clear aE aD aA aC HB hq_; have aE := b4; have aD := b5; have aA := b6; have aC := b7; have HB := b8; clear b4 b5 b6 b7 b8; have dB : bR.cell? ⟨aI, 0, none⟩ = some (.slice aU aJ.length aV) := (bc aA.out 0).trans rfl; have dC : bR.cell? ⟨aI, 1, none⟩ = some (.slice aX aN.length aY) := (bc aA.out 1).trans rfl; have dD : bR.cell? ⟨aI, 2, none⟩ = some (.slice a2 aW.length a3) := (bc aA.out 2).trans rfl))) | ((with_reducible refine gate_callee (f := 55) rfl ?_); refine gL 26 Try.func55 #[.agg #[.slice aU aJ.length aV, .slice aX aN.length aY, .slice a2 aW.length a3]] ?_; (with_reducible refine (spec_copyHist.calls bD _ _ aJ _ _ aN _ _ aW cT cU cV _ ?s1 a0.out ?s3 bB.out ?s5 bQ.out iY.out).mono ?_); (case s1 => exact Z5 aZ.out); (case s3 => exact Z5 bA.out); (case s5 => exact Z5 bP.out); rintro e jJ ⟨iZ, i6, i7, rfl, ho0, ho1, ho2, hb⟩; refine ⟨_, rfl, ?_⟩; replace aE := A_ (Vm (Kd.V_told (Kd.V_told (Kd.V_told (Kd.V_old (Z22 aE.out) hb) (Kd.S_base ho0)) (Kd.R_base ho1)) (Kd.R_base ho2)) (fun _ h_ => h_.1)); have b9 := A_ (Kd.S_lower (Kd.S_new' ho0 (Kd.S_lt (Z29 aD.out))) (bz (Z4 aG.out aH.out))); have cA := A_ (Kd.R_lower (Kd.R_new' ho1 (Kd.S_lt (Z29 aD.out))) (bz (Z4 aG.out aH.out))); have cB := A_ (Kd.R_lower (Kd.R_new' ho2 (Kd.S_lt (Z29 aD.out))) (bz (Z4 aG.out aH.out))); replace aD := A_ (Kd.S_elder' (Z29 aD.out) (Kd.S_base ho0) hb); replace aA := A_ (bb (Z0 aA.out) hb); replace aC := A_ (bb (Z0 aC.out) hb); replace HB := A_ (bst (Z4 aG.out aH.out) hb); (try clear hb); (try clear ho0); (try clear ho1); (try clear ho2); obtain ⟨gS, gT, gU⟩ := Kd.S_slice b9.out; subst gU; obtain ⟨e4, e5, e6, e7, e8, e9⟩ := C3 aC.out; obtain ⟨gV, gW, gX⟩ := Kd.R_slice cA.out; subst gX; obtain ⟨gY, gZ, g3⟩ := Kd.R_slice cB.out; subst g3))
     refine bodyPost_ret (results_cell_row rfl _ _ aK 26 #[.slice gS cT.length gT, .slice gV cU.length gW, .slice gY cV.length gZ] (0, 0) _ rfl (bp0 aC.out) Try.underlying26 rfl (by kernel_rfl)) rfl ?_
     exact ⟨_, _, _, Z11, Z56 b9.out aC.out, by (with_reducible repeat (first | apply Kd.R_alloc | apply Kd.R_drewN | apply Kd.R_drew)); exact Rm (Rf (Rf (Rf (Kd.R_types cA.out aC.out (by decide))))) (fun _ hk => ⟨hk.1.1.1, hk.1.1.2⟩), by (with_reducible repeat (first | apply Kd.R_alloc | apply Kd.R_drewN | apply Kd.R_drew)); exact Rm (Rf (Rf (Rf (Kd.R_types cB.out aC.out (by decide))))) (fun _ hk => ⟨hk.1.1.1, hk.1.1.2⟩), Z4 aG.out aH.out⟩
    ·replace eR := Bool.eq_false_iff.mpr eR
     subst eR; rw [if_neg (show ¬ (false = true) by decide)] at H; replace H := bS H; obtain ⟨bM, dE, H⟩ := H
     try dsimp only at H
     have iM := A_ dE; clear dE; replace H := bS H; obtain ⟨a7, dF, H⟩ := H
     try dsimp only at H
     have iN := A_ dF; clear dF
     by_cases fA : bM.length < 5864062014805
     ·rw [if_pos fA] at H
      have cC := A_ fA; clear fA; obtain ⟨a5, bK⟩ : ∃ y_ : List (List (S72)), y_ = (bM ++ [a7]) := ⟨_, rfl⟩
      first | rw [← bK, Option.bind_some] at H | rw [← bK] at H
      have cD := A_ bK; clear bK
      by_cases cO : (a5.length : Int) > 6
      ·rw [if_pos cO] at H
       have dG : decide (6 < (a5.length : Int)) = true := dt cO; have dH : decide (6 < a5.length) = true := dt (by omega); clear cO
       by_cases dI : 1 ≤ (a5.length : Int)
       ·rw [if_pos dI] at H
        have iO := eq_true dI; have iP := dt dI; clear dI; obtain ⟨bE, bL⟩ : ∃ y_ : List (List (S72)), y_ = (a5.drop (1 : Int).toNat) := ⟨_, rfl⟩
        first | rw [← bL, Option.bind_some] at H | rw [← bL] at H
        have cE := A_ bL; clear bL; replace H := bS H; obtain ⟨dJ, dK, H⟩ := H
        try dsimp only at H
        have i8 := A_ dK; clear dK; simp only [Option.some.injEq, Prod.mk.injEq] at H; obtain ⟨rfl, rfl, rfl⟩ := H; have iQ := aR.out; have iR := aT.out; obtain ⟨fB, fC, fD, fE, fF, fG⟩ := C3 aA.out
        try go_wp2_with (first | ((with_reducible refine gate_callee (f := 54) rfl ?_); refine gL 19 Try.func54 #[.slice aU aJ.length aV, .slice A1 l1.length c1] ?_; (with_reducible refine (spec_storeRun.calls bD (fun k_ => k_ < w.heap.size) _ _ aJ _ _ l1 a4 _ ?s1 ?s2 d7.out gM.out).mono ?_); (case s1 => exact Kd.V_mk a0.out (Kd.F_below (Kd.C_F k72_heap aZ.out) (Z4 aG.out aH.out))); (case s2 => exact Z5 d6.out); rintro e jK ⟨cX, rfl, ho0, hb⟩; refine ⟨_, rfl, ?_⟩; have aE := A_ (Kd.V_lower (Vm (ok' := fun k_ => k_ ≠ aI ∧ k_ ≠ aK) ho0 (fun k_ hk_ => ⟨Or.elim hk_ (fun hs_ => fun e_ => Nat.not_le.2 hs_ (by rw [e_]; exact bH.out)) (fun hn_ => (Kd.freshB (Z0 aA.out) k_ hn_)), Or.elim hk_ (fun hs_ => fun e_ => Nat.not_le.2 hs_ (by rw [e_]; exact bI.out)) (fun hn_ => (Kd.freshB (Z0 aC.out) k_ hn_))⟩)) (bz (Z4 aG.out aH.out))); replace aA := A_ (bb (Z0 aA.out) hb); replace aC := A_ (bb (Z0 aC.out) hb); replace HB := A_ (bst (Z4 aG.out aH.out) hb); (try clear hb); (try clear ho0); obtain ⟨dL, dM, g4⟩ := Kd.V_slice aE.out; subst g4) | ((with_reducible refine gate_callee (f := 30) rfl ?_); refine gL 20 Try.func30 #[.slice dL a4.length dM] ?_; (with_reducible refine (spec_copyStore.calls bD _ _ a4 aM _ ?s1 ?s2 gN.out).mono ?_); (case s1 => exact Z38 aE.out); (case s2 => exact Z95 aE.out); rintro e bN ⟨dA, rfl, ho0, hb⟩; refine ⟨_, rfl, ?_⟩; replace aE := A_ (Kd.V_elder' (Z22 aE.out) (Kd.S_base ho0) hb); have aD := A_ (Kd.S_lower ho0 (bz (Z4 aG.out aH.out))); replace aA := A_ (bb (Z0 aA.out) hb); replace aC := A_ (bb (Z0 aC.out) hb); replace HB := A_ (bst (Z4 aG.out aH.out) hb); (try clear hb); (try clear ho0); obtain ⟨fH, fI, fJ, fK, fL, fM⟩ := C3 aA.out; obtain ⟨a8, a9, g5⟩ := Kd.S_slice aD.out; subst g5) | ((with_reducible refine gate_callee (f := 32) rfl ?_); refine gL 24 Try.func32 #[.slice a8 aM.length a9, .slice aU aJ.length aV] ?_; (with_reducible refine (spec_sameStore.calls bD _ _ aM _ _ aJ false _ ?s1 ?s2 ?s3 a0.out gP.out).mono ?_); (case s1 => repeat (first | exact (Kd.S_reads' aD.out).2.2 | (with_reducible refine Kd.C_alloc ?_ _) | (with_reducible refine Kd.C_drewN ?_ _) | (with_reducible refine Kd.C_drew ?_))); (case s2 => exact (Kd.S_reads' aD.out).2.1); (case s3 => exact Z5 aZ.out); rintro e w' ⟨rfl, ⟨nd, rfl⟩⟩; refine ⟨_, rfl, ?_⟩; (try (rw [drewN_self bN]; generalize hq_ : World.drewN bN _ = bN; have b4 : Aside0 (Kd.V k72 72 bN w.heap.size (fun k_ => some k_ ≠ (.slice a8 aM.length a9 : Value).ownBlock ∧ k_ ≠ aI ∧ k_ ≠ aK) (.slice dL a4.length dM) a4) := ⟨by rw [← hq_]; exact (Z64 aE.out)⟩; have b5 : Aside0 (Kd.S k72 72 bN w.heap.size (fun _ => True) (.slice a8 aM.length a9) aM) := ⟨by rw [← hq_]; exact (Z29 aD.out)⟩; have b6 : Aside0 (bN.heap[aI]? = some (.cells #[.slice aU aJ.length aV, .slice aX aN.length aY, .slice a2 aW.length a3] 26 (0, 0))) := ⟨by rw [← hq_]; exact (Z0 aA.out)⟩; have b7 : Aside0 (bN.heap[aK]? = some (.cells #[.slice none 0 0, .slice none 0 0, .slice none 0 0] 26 (0, 0))) := ⟨by rw [← hq_]; exact (Z0 aC.out)⟩; have b8 : Aside0 (Below w.heap.size w bN) := ⟨by rw [← hq_]; exact (Z4 aG.out aH.out)⟩; clear aE aD aA aC HB hq_; have aE := b4; have aD := b5; have aA := b6; have aC := b7; have HB := b8; clear b4 b5 b6 b7 b8; have dN : bN.cell? ⟨aI, 0, none⟩ = some (.slice aU aJ.length aV) := (bc aA.out 0).trans rfl; have dO : bN.cell? ⟨aI, 1, none⟩ = some (.slice aX aN.length aY) := (bc aA.out 1).trans rfl; have dP : bN.cell? ⟨aI, 2, none⟩ = some (.slice a2 aW.length a3) := (bc aA.out 2).trans rfl))))
        replace aE := A_ (Kd.V_drew aE.out); replace aD := A_ (Kd.S_drew aD.out); replace aA := A_ (blk_drew aA.out); replace aC := A_ (blk_drew aC.out); replace HB := A_ (below_drew1 HB.out)
        refine start_ (n := 9) (S := fun w' => w'.cell? ⟨aI, 0, none⟩ = some (.slice aU aJ.length aV) ∧ w'.cell? ⟨aI, 1, none⟩ = some (.slice aX aN.length aY) ∧ w'.cell? ⟨aI, 2, none⟩ = some (.slice a2 aW.length a3)) (ds := []) #[F,F,F,F,F,F,F,F,F] (by kernel_rfl) rfl rfl ⟨(bc aA.out 0).trans rfl, (bc aA.out 1).trans rfl, (bc aA.out 2).trans rfl⟩ (fun hHeld => ?_); refine with_tabW spec_HistDo.tab6 spec_HistDo.bits6 (fun HT_ HW_ => ?_)
        generalize bN.drew = jL at aE aD aA aC HB hHeld ⊢; refine pU 0 27 #[T,F,F,F,F,F,F,F,F] ?_; refine pU 3 30 #[T,F,F,T,F,F,F,F,F] ?_; refine tU 1 28 #[T,T,F,T,F,F,F,F,F] ?_ (y := Z87); refine tU 4 31 #[T,T,F,T,T,F,F,F,F] ?_ (y := Z87)
        refine oU 2 (some 29) #[T,T,T,T,T,F,F,F,F] (fun K hK => ?_)
        refine goes_ Try.func31 (by kernel_rfl) rfl #[.slice aX aN.length aY] (by rfl) rfl rfl Z23 ?_
        with_reducible refine (spec_copyStores.calls bD _ _ aN bM _ ?s1 ?s2 iM.out).mono ?_
        (case s1 => exact Z5 bA.out)
        (case s2 => exact bB.out)
        rintro e jM ⟨bT, rfl, ho0, hb⟩
        refine ⟨_, rfl, ?_⟩
        replace aE := A_ (Kd.V_elder' (Z22 aE.out) (Kd.R_base ho0) hb); have aQ := A_ (Kd.R_lower (Kd.R_new' ho0 (Kd.S_lt (Z29 aD.out))) (bz (Z4 aG.out aH.out))); replace aD := A_ (Kd.S_below (Z29 aD.out) hb); replace aA := A_ (bb (Z0 aA.out) hb); replace aC := A_ (bb (Z0 aC.out) hb); replace HB := A_ (bst (Z4 aG.out aH.out) hb); (try clear hb); (try clear g6); (try clear hk); (try clear hi); (try clear ho0)
        refine hK.out _ _ ⟨(bc aA.out 0).trans rfl, (bc aA.out 1).trans rfl, (bc aA.out 2).trans rfl⟩ (fun hHeld => ?_)
        clear hK K
        refine norm_ (a' := ?_) ?_ ?_
        rotate_left
        ·show Act.put _ (some 29) _ = _
         simp only [Act.put, List.setIfInBounds_toArray, List.set_cons_zero, List.set_cons_succ, i64_w, i32_w]
         rfl
        refine oU 5 (some 32) #[T,T,T,T,T,T,F,F,F] (fun K hK => ?_)
        refine goes_ Try.func30 (by kernel_rfl) rfl #[.slice aU aJ.length aV] (by rfl) rfl rfl Z23 ?_
        with_reducible refine (spec_copyStore.calls bD _ _ aJ a7 _ ?s1 ?s2 iN.out).mono ?_
        (case s1 => exact Z5 aZ.out)
        (case s2 => exact a0.out)
        rintro e jN ⟨g7, rfl, ho0, hb⟩
        refine ⟨_, rfl, ?_⟩
        replace aE := A_ (Kd.V_elder' (Z22 aE.out) (Kd.S_base ho0) hb); replace aQ := A_ (Kd.R_elder' (Z12 aQ.out) (Kd.S_base ho0) hb); have a6 := A_ (Kd.S_lower (Kd.S_new' ho0 (Kd.S_lt (Z29 aD.out))) (bz (Z4 aG.out aH.out))); replace aD := A_ (Kd.S_elder' (Z29 aD.out) (Kd.S_base ho0) hb); replace aA := A_ (bb (Z0 aA.out) hb); replace aC := A_ (bb (Z0 aC.out) hb); replace HB := A_ (bst (Z4 aG.out aH.out) hb); (try clear hb); (try clear g6); (try clear hk); (try clear hi); (try clear ho0); obtain ⟨dQ, dR, dS⟩ := Kd.S_slice a6.out; (first | subst dS | (injection dS with dT g8 dU; have g9 := dT.symm; have hD := dU.symm; clear dT g8 dU; subst g9; subst hD))
        refine hK.out _ _ ⟨(bc aA.out 0).trans rfl, (bc aA.out 1).trans rfl, (bc aA.out 2).trans rfl⟩ (fun hHeld => ?_)
        clear hK K
        refine norm_ (a' := ?_) ?_ ?_
        rotate_left; (·exact Z100)
        refine oU 6 (some 33) #[T,T,T,T,T,T,T,F,F] (fun K hK => ?_)
        refine value_ (w1 := ?_) (v := ?_) (by rfl) rfl ?_ ?_
        rotate_left 2
        ·go_simp
         constructor
         ·rfl
         ·rfl
        refine hK.out _ _ ⟨(bc (ba aA.out _) 0).trans rfl, (bc (ba aA.out _) 1).trans rfl, (bc (ba aA.out _) 2).trans rfl⟩ (fun hHeld => ?_)
        clear hK K
        refine norm_ (a' := ?_) ?_ ?_
        rotate_left
        ·show Act.put _ (some 33) _ = _
         simp only [Act.put, List.setIfInBounds_toArray, List.set_cons_zero, List.set_cons_succ, i64_w, i32_w]
         rfl
        refine oU 7 (some 34) #[T,T,T,T,T,T,T,T,F] (fun K hK => ?_)
        refine Kd.R_append_step (Kd.slice 72 k72) (w0 := w) w.heap.size (by rfl) (.tmp 29) (.tmp 33) 24 23 (.slice none 0 0) 24 rfl Try.underlying24 info23 rfl (by decide) (by omega) bT bM a7 [.slice dQ a7.length dR] (fun k_ => some k_ ≠ (.slice a8 aM.length a9 : Value).ownBlock) (fun k_ => ((fun k_ => some k_ ≠ (.slice a8 aM.length a9 : Value).ownBlock)) k_ ∧ some k_ ≠ (bT : Value).ownBlock) rfl rfl ?aP (fun _ hk => hk) ?aF ?aO ?aB ?aS ?aL ?_
        (case aP => exact Kd.M_row (Rm (Kd.R_apart' ((Kd.S_R a6.out)) (Kd.R_typed aQ.out) (by decide)) (fun k_ hk => ⟨hk.1.2, hk.2⟩)))
        (case aB => exact (Z4 aG.out aH.out))
        (case aF => exact (fun k_ hk => Kd.fresh' (Kd.S_lt (Z29 aD.out)) k_ hk))
        (case aO => exact (by (with_reducible repeat (first | apply Kd.R_alloc | apply Kd.R_drewN | apply Kd.R_drew)); exact Rm aQ.out (fun _ hk => hk.1.2)))
        (case aS => exact (bz (Z4 aG.out aH.out)))
        (case aL => have := cC.out; omega)
        intro hG i9 ho hb hg hat
        rw [← cD.out] at ho; replace aA := A_ (blk_grown (Z0 aA.out) hg (Kd.R_ne aQ.out aA.out (by decide))); replace aC := A_ (blk_grown (Z0 aC.out) hg (Kd.R_ne aQ.out aC.out (by decide))); replace aE := A_ (Kd.V_afterv (ok := (fun k_ => some k_ ≠ (.slice a8 aM.length a9 : Value).ownBlock ∧ some k_ ≠ (.slice dQ a7.length dR : Value).ownBlock ∧ k_ ≠ aI ∧ k_ ≠ aK)) (Z64 aE.out) hg hat); replace aD := A_ (Kd.S_over' (Z29 aD.out) (Kd.R_typed (Z12 aQ.out)) (by decide) hg); replace HB := A_ hb; have a1 := A_ ho; clear aQ; clear a6; clear ho hb hg hat
        refine hK.out _ _ ⟨(bc aA.out 0).trans rfl, (bc aA.out 1).trans rfl, (bc aA.out 2).trans rfl⟩ (fun hHeld => ?_)
        clear hK K
        refine norm_ (a' := ?_) ?_ ?_
        rotate_left
        ·show Act.put _ (some 34) _ = _
         simp only [Act.put, List.setIfInBounds_toArray, List.set_cons_zero, List.set_cons_succ, i64_w, i32_w]
         rfl
        refine pU 8 6 #[T,T,T,T,T,T,T,T,T] ?_
        refine done_ (done_of HT_.out (by kernel_rfl)) ?_
        obtain ⟨bU, bW, hH⟩ := Kd.R_slice a1.out; subst hH; have hI : (1 : Int) ≤ ((a5.length : Int) : Int) := odt; obtain ⟨jA, cF, _, cG, _⟩ := info_parts info23; have cL := cut_from (P := Try.prog) 24 23 .i64 Try.underlying24 cF 1 cG bU a5.length bW 1 (by omega) hI; have bV := Kd.Q_drop (k := (1 : Int).toNat) (Kd.Q_of_R a1.out) (by omega); obtain ⟨fN, bX⟩ : ∃ A1, A1 = (if bW = (1 : Int).toNat then bU else (bU : Option Addr).map (·.add ((1 : Int).toNat * 1))) := ⟨_, rfl⟩; obtain ⟨fO, cM⟩ : ∃ c1, c1 = bW - (1 : Int).toNat := ⟨_, rfl⟩; have cN : bE.length = a5.length - (1 : Int).toNat := (by rw [cE.out, List.length_drop]); rw [← cE.out] at bV; rw [← cN, ← bX, ← cM] at cL; replace bV : Kd.Q (Kd.slice 72 k72) 23 i9 w.heap.size (fun k_ => some k_ ≠ (.slice a8 aM.length a9 : Value).ownBlock) (.slice fN bE.length fO) bE := (by rw [bX, cM, cN]; exact bV); have hJ : Aside0 ((Value.slice fN bE.length fO).ownBlock = (.slice bU a5.length bW : Value).ownBlock) := ⟨by rw [bX]; split <;> (cases (bU : Option Addr) <;> rfl)⟩; clear cN cF cG a1 bX cM; have bC := A_ bV; clear bV; replace hI := eq_true hI; have n_ := A_ (Vm (ok' := fun k_ => ((some k_ ≠ (.slice a8 aM.length a9 : Value).ownBlock ∧ (True ∧ (k_ ≠ aI ∧ k_ ≠ aK))) ∧ some k_ ≠ (.slice fN bE.length fO : Value).ownBlock)) aE.out (fun k_ hk => ⟨⟨hk.1.1, ⟨trivial, ⟨hk.1.2.2.1, hk.1.2.2.2⟩⟩⟩, (by rw [hJ.out]; exact hk.2)⟩))
        clear aE; have aE := n_; clear n_
        try go_wp2_with (first | ((with_reducible refine gate_callee (f := 31) rfl ?_); refine gL 42 Try.func31 #[.slice fN bE.length fO] ?_; (with_reducible refine (spec_copyStores.calls bD _ _ bE dJ _ ?s1 ?s2 i8.out).mono ?_); (case s1 => repeat (first | exact (Kd.Q_reads' bC.out).2.2 | (with_reducible refine Kd.C_alloc ?_ _) | (with_reducible refine Kd.C_drewN ?_ _) | (with_reducible refine Kd.C_drew ?_))); (case s2 => exact (Kd.Q_reads' bC.out).2.1); rintro e jO ⟨jB, rfl, ho0, hb⟩; refine ⟨_, rfl, ?_⟩; replace aE := A_ (Kd.V_elder' (Z22 aE.out) (Kd.R_base ho0) hb); have cH := A_ (Kd.R_lower (Kd.R_new' (Kd.R_new' ho0 (Kd.S_lt (Z29 aD.out))) (Kd.Q_lt (by (with_reducible repeat (first | apply Kd.Q_alloc | apply Kd.Q_drewN | apply Kd.Q_drew)); exact bC.out))) (bz (Z4 aG.out aH.out))); replace aD := A_ (Kd.S_below (Z29 aD.out) hb); replace bC := A_ (Kd.Q_elder' (by (with_reducible repeat (first | apply Kd.Q_alloc | apply Kd.Q_drewN | apply Kd.Q_drew)); exact bC.out) (Kd.R_base ho0) hb); replace aA := A_ (bb (Z0 aA.out) hb); replace aC := A_ (bb (Z0 aC.out) hb); replace HB := A_ (bst (Z4 aG.out aH.out) hb); (try clear hb); (try clear ho0); obtain ⟨hL, hO, hP⟩ := Kd.R_slice cH.out; subst hP; obtain ⟨fP, fQ, fR, fS, fT, fU⟩ := C3 aC.out))
        refine bodyPost_ret (results_cell_row rfl _ _ aK 26 #[.slice a8 aM.length a9, .slice hL dJ.length hO, .slice none 0 0] (0, 0) _ rfl (bp0 aC.out) Try.underlying26 rfl (by kernel_rfl)) rfl ?_
        exact ⟨_, _, _, Z11, Z56 aD.out aC.out, by (with_reducible repeat (first | apply Kd.R_alloc | apply Kd.R_drewN | apply Kd.R_drew)); exact Rm (Rf (Rf (Rf (Kd.R_types cH.out aC.out (by decide))))) (fun _ hk => ⟨hk.1.1.2, (by simp [Value.ownBlock])⟩), Z44, Z4 aG.out aH.out⟩
       ·rw [if_neg dI] at H
        exact absurd H (by simp)
      ·rw [if_neg cO] at H
       have dG : decide (6 < (a5.length : Int)) = false := df cO; have dH : decide (6 < a5.length) = false := df (by omega); clear cO; replace H := bS H; obtain ⟨dV, dW, H⟩ := H
       try dsimp only at H
       have jC := A_ dW; clear dW; simp only [Option.some.injEq, Prod.mk.injEq] at H; obtain ⟨rfl, rfl, rfl⟩ := H; have iS := aR.out; have iT := aT.out; obtain ⟨fV, fW, fX, fY, fZ, f4⟩ := C3 aA.out
       try go_wp2_with (first | ((with_reducible refine gate_callee (f := 54) rfl ?_); refine gL 19 Try.func54 #[.slice aU aJ.length aV, .slice A1 l1.length c1] ?_; (with_reducible refine (spec_storeRun.calls bD (fun k_ => k_ < w.heap.size) _ _ aJ _ _ l1 a4 _ ?s1 ?s2 d7.out gM.out).mono ?_); (case s1 => exact Kd.V_mk a0.out (Kd.F_below (Kd.C_F k72_heap aZ.out) (Z4 aG.out aH.out))); (case s2 => exact Z5 d6.out); rintro e jP ⟨cX, rfl, ho0, hb⟩; refine ⟨_, rfl, ?_⟩; have aE := A_ (Kd.V_lower (Vm (ok' := fun k_ => k_ ≠ aI ∧ k_ ≠ aK) ho0 (fun k_ hk_ => ⟨Or.elim hk_ (fun hs_ => fun e_ => Nat.not_le.2 hs_ (by rw [e_]; exact bH.out)) (fun hn_ => (Kd.freshB (Z0 aA.out) k_ hn_)), Or.elim hk_ (fun hs_ => fun e_ => Nat.not_le.2 hs_ (by rw [e_]; exact bI.out)) (fun hn_ => (Kd.freshB (Z0 aC.out) k_ hn_))⟩)) (bz (Z4 aG.out aH.out))); replace aA := A_ (bb (Z0 aA.out) hb); replace aC := A_ (bb (Z0 aC.out) hb); replace HB := A_ (bst (Z4 aG.out aH.out) hb); (try clear hb); (try clear ho0); obtain ⟨dX, dY, hU⟩ := Kd.V_slice aE.out; subst hU) | ((with_reducible refine gate_callee (f := 30) rfl ?_); refine gL 20 Try.func30 #[.slice dX a4.length dY] ?_; (with_reducible refine (spec_copyStore.calls bD _ _ a4 aM _ ?s1 ?s2 gN.out).mono ?_); (case s1 => exact Z38 aE.out); (case s2 => exact Z95 aE.out); rintro e bO ⟨dA, rfl, ho0, hb⟩; refine ⟨_, rfl, ?_⟩; replace aE := A_ (Kd.V_elder' (Z22 aE.out) (Kd.S_base ho0) hb); have aD := A_ (Kd.S_lower ho0 (bz (Z4 aG.out aH.out))); replace aA := A_ (bb (Z0 aA.out) hb); replace aC := A_ (bb (Z0 aC.out) hb); replace HB := A_ (bst (Z4 aG.out aH.out) hb); (try clear hb); (try clear ho0); obtain ⟨f5, f6, f7, f8, f9, gA⟩ := C3 aA.out; obtain ⟨bF, bG, hV⟩ := Kd.S_slice aD.out; subst hV) | ((with_reducible refine gate_callee (f := 32) rfl ?_); refine gL 24 Try.func32 #[.slice bF aM.length bG, .slice aU aJ.length aV] ?_; (with_reducible refine (spec_sameStore.calls bD _ _ aM _ _ aJ false _ ?s1 ?s2 ?s3 a0.out gP.out).mono ?_); (case s1 => repeat (first | exact (Kd.S_reads' aD.out).2.2 | (with_reducible refine Kd.C_alloc ?_ _) | (with_reducible refine Kd.C_drewN ?_ _) | (with_reducible refine Kd.C_drew ?_))); (case s2 => exact (Kd.S_reads' aD.out).2.1); (case s3 => exact Z5 aZ.out); rintro e w' ⟨rfl, ⟨nd, rfl⟩⟩; refine ⟨_, rfl, ?_⟩; (try (rw [drewN_self bO]; generalize hq_ : World.drewN bO _ = bO; have b4 : Aside0 (Kd.V k72 72 bO w.heap.size (fun k_ => some k_ ≠ (.slice bF aM.length bG : Value).ownBlock ∧ k_ ≠ aI ∧ k_ ≠ aK) (.slice dX a4.length dY) a4) := ⟨by rw [← hq_]; exact (Z64 aE.out)⟩; have b5 : Aside0 (Kd.S k72 72 bO w.heap.size (fun _ => True) (.slice bF aM.length bG) aM) := ⟨by rw [← hq_]; exact (Z29 aD.out)⟩; have b6 : Aside0 (bO.heap[aI]? = some (.cells #[.slice aU aJ.length aV, .slice aX aN.length aY, .slice a2 aW.length a3] 26 (0, 0))) := ⟨by rw [← hq_]; exact (Z0 aA.out)⟩; have b7 : Aside0 (bO.heap[aK]? = some (.cells #[.slice none 0 0, .slice none 0 0, .slice none 0 0] 26 (0, 0))) := ⟨by rw [← hq_]; exact (Z0 aC.out)⟩; have b8 : Aside0 (Below w.heap.size w bO) := ⟨by rw [← hq_]; exact (Z4 aG.out aH.out)⟩; clear aE aD aA aC HB hq_; have aE := b4; have aD := b5; have aA := b6; have aC := b7; have HB := b8; clear b4 b5 b6 b7 b8; have dZ : bO.cell? ⟨aI, 0, none⟩ = some (.slice aU aJ.length aV) := (bc aA.out 0).trans rfl; have d0 : bO.cell? ⟨aI, 1, none⟩ = some (.slice aX aN.length aY) := (bc aA.out 1).trans rfl; have d1 : bO.cell? ⟨aI, 2, none⟩ = some (.slice a2 aW.length a3) := (bc aA.out 2).trans rfl))))
       replace aE := A_ (Kd.V_drew aE.out); replace aD := A_ (Kd.S_drew aD.out); replace aA := A_ (blk_drew aA.out); replace aC := A_ (blk_drew aC.out); replace HB := A_ (below_drew1 HB.out)
       refine start_ (n := 9) (S := fun w' => w'.cell? ⟨aI, 0, none⟩ = some (.slice aU aJ.length aV) ∧ w'.cell? ⟨aI, 1, none⟩ = some (.slice aX aN.length aY) ∧ w'.cell? ⟨aI, 2, none⟩ = some (.slice a2 aW.length a3)) (ds := []) #[F,F,F,F,F,F,F,F,F] (by kernel_rfl) rfl rfl ⟨(bc aA.out 0).trans rfl, (bc aA.out 1).trans rfl, (bc aA.out 2).trans rfl⟩ (fun hHeld => ?_); refine with_tabW spec_HistDo.tab6 spec_HistDo.bits6 (fun HT_ HW_ => ?_)
       generalize bO.drew = jQ at aE aD aA aC HB hHeld ⊢; refine pU 0 27 #[T,F,F,F,F,F,F,F,F] ?_; refine pU 3 30 #[T,F,F,T,F,F,F,F,F] ?_; refine tU 1 28 #[T,T,F,T,F,F,F,F,F] ?_ (y := Z87); refine tU 4 31 #[T,T,F,T,T,F,F,F,F] ?_ (y := Z87)
       refine oU 2 (some 29) #[T,T,T,T,T,F,F,F,F] (fun K hK => ?_)
       refine goes_ Try.func31 (by kernel_rfl) rfl #[.slice aX aN.length aY] (by rfl) rfl rfl Z23 ?_
       with_reducible refine (spec_copyStores.calls bD _ _ aN bM _ ?s1 ?s2 iM.out).mono ?_
       (case s1 => exact Z5 bA.out)
       (case s2 => exact bB.out)
       rintro e jR ⟨bT, rfl, ho0, hb⟩
       refine ⟨_, rfl, ?_⟩
       replace aE := A_ (Kd.V_elder' (Z22 aE.out) (Kd.R_base ho0) hb); have aQ := A_ (Kd.R_lower (Kd.R_new' ho0 (Kd.S_lt (Z29 aD.out))) (bz (Z4 aG.out aH.out))); replace aD := A_ (Kd.S_below (Z29 aD.out) hb); replace aA := A_ (bb (Z0 aA.out) hb); replace aC := A_ (bb (Z0 aC.out) hb); replace HB := A_ (bst (Z4 aG.out aH.out) hb); (try clear hb); (try clear g6); (try clear hk); (try clear hi); (try clear ho0)
       refine hK.out _ _ ⟨(bc aA.out 0).trans rfl, (bc aA.out 1).trans rfl, (bc aA.out 2).trans rfl⟩ (fun hHeld => ?_)
       clear hK K
       refine norm_ (a' := ?_) ?_ ?_
       rotate_left
       ·show Act.put _ (some 29) _ = _
        simp only [Act.put, List.setIfInBounds_toArray, List.set_cons_zero, List.set_cons_succ, i64_w, i32_w]
        rfl
       refine oU 5 (some 32) #[T,T,T,T,T,T,F,F,F] (fun K hK => ?_)
       refine goes_ Try.func30 (by kernel_rfl) rfl #[.slice aU aJ.length aV] (by rfl) rfl rfl Z23 ?_
       with_reducible refine (spec_copyStore.calls bD _ _ aJ a7 _ ?s1 ?s2 iN.out).mono ?_
       (case s1 => exact Z5 aZ.out)
       (case s2 => exact a0.out)
       rintro e jS ⟨g7, rfl, ho0, hb⟩
       refine ⟨_, rfl, ?_⟩
       replace aE := A_ (Kd.V_elder' (Z22 aE.out) (Kd.S_base ho0) hb); replace aQ := A_ (Kd.R_elder' (Z12 aQ.out) (Kd.S_base ho0) hb); have a6 := A_ (Kd.S_lower (Kd.S_new' ho0 (Kd.S_lt (Z29 aD.out))) (bz (Z4 aG.out aH.out))); replace aD := A_ (Kd.S_elder' (Z29 aD.out) (Kd.S_base ho0) hb); replace aA := A_ (bb (Z0 aA.out) hb); replace aC := A_ (bb (Z0 aC.out) hb); replace HB := A_ (bst (Z4 aG.out aH.out) hb); (try clear hb); (try clear g6); (try clear hk); (try clear hi); (try clear ho0); obtain ⟨d2, d3, d4⟩ := Kd.S_slice a6.out; (first | subst d4 | (injection d4 with dT g8 dU; have g9 := dT.symm; have hD := dU.symm; clear dT g8 dU; subst g9; subst hD))
       refine hK.out _ _ ⟨(bc aA.out 0).trans rfl, (bc aA.out 1).trans rfl, (bc aA.out 2).trans rfl⟩ (fun hHeld => ?_)
       clear hK K
       refine norm_ (a' := ?_) ?_ ?_
       rotate_left; (·exact Z100)
       refine oU 6 (some 33) #[T,T,T,T,T,T,T,F,F] (fun K hK => ?_)
       refine value_ (w1 := ?_) (v := ?_) (by rfl) rfl ?_ ?_
       rotate_left 2
       ·go_simp
        constructor
        ·rfl
        ·rfl
       refine hK.out _ _ ⟨(bc (ba aA.out _) 0).trans rfl, (bc (ba aA.out _) 1).trans rfl, (bc (ba aA.out _) 2).trans rfl⟩ (fun hHeld => ?_)
       clear hK K
       refine norm_ (a' := ?_) ?_ ?_
       rotate_left
       ·show Act.put _ (some 33) _ = _
        simp only [Act.put, List.setIfInBounds_toArray, List.set_cons_zero, List.set_cons_succ, i64_w, i32_w]
        rfl
       refine oU 7 (some 34) #[T,T,T,T,T,T,T,T,F] (fun K hK => ?_)
       refine Kd.R_append_step (Kd.slice 72 k72) (w0 := w) w.heap.size (by rfl) (.tmp 29) (.tmp 33) 24 23 (.slice none 0 0) 24 rfl Try.underlying24 info23 rfl (by decide) (by omega) bT bM a7 [.slice d2 a7.length d3] (fun k_ => some k_ ≠ (.slice bF aM.length bG : Value).ownBlock) (fun k_ => ((fun k_ => some k_ ≠ (.slice bF aM.length bG : Value).ownBlock)) k_ ∧ some k_ ≠ (bT : Value).ownBlock) rfl rfl ?aP (fun _ hk => hk) ?aF ?aO ?aB ?aS ?aL ?_
       (case aP => exact Kd.M_row (Rm (Kd.R_apart' ((Kd.S_R a6.out)) (Kd.R_typed aQ.out) (by decide)) (fun k_ hk => ⟨hk.1.2, hk.2⟩)))
       (case aB => exact (Z4 aG.out aH.out))
       (case aF => exact (fun k_ hk => Kd.fresh' (Kd.S_lt (Z29 aD.out)) k_ hk))
       (case aO => exact (by (with_reducible repeat (first | apply Kd.R_alloc | apply Kd.R_drewN | apply Kd.R_drew)); exact Rm aQ.out (fun _ hk => hk.1.2)))
       (case aS => exact (bz (Z4 aG.out aH.out)))
       (case aL => have := cC.out; omega)
       intro hG jT ho hb hg hat
       rw [← cD.out] at ho; replace aA := A_ (blk_grown (Z0 aA.out) hg (Kd.R_ne aQ.out aA.out (by decide))); replace aC := A_ (blk_grown (Z0 aC.out) hg (Kd.R_ne aQ.out aC.out (by decide))); replace aE := A_ (Kd.V_afterv (ok := (fun k_ => some k_ ≠ (.slice bF aM.length bG : Value).ownBlock ∧ some k_ ≠ (.slice d2 a7.length d3 : Value).ownBlock ∧ k_ ≠ aI ∧ k_ ≠ aK)) (Z64 aE.out) hg hat); replace aD := A_ (Kd.S_over' (Z29 aD.out) (Kd.R_typed (Z12 aQ.out)) (by decide) hg); replace HB := A_ hb; have a1 := A_ ho; clear aQ; clear a6; clear ho hb hg hat
       refine hK.out _ _ ⟨(bc aA.out 0).trans rfl, (bc aA.out 1).trans rfl, (bc aA.out 2).trans rfl⟩ (fun hHeld => ?_)
       clear hK K
       refine norm_ (a' := ?_) ?_ ?_
       rotate_left
       ·show Act.put _ (some 34) _ = _
        simp only [Act.put, List.setIfInBounds_toArray, List.set_cons_zero, List.set_cons_succ, i64_w, i32_w]
        rfl
       refine pU 8 6 #[T,T,T,T,T,T,T,T,T] ?_
       refine done_ (done_of HT_.out (by kernel_rfl)) ?_
       obtain ⟨hX, hY, hZ⟩ := Kd.R_slice a1.out; subst hZ
       try go_wp2_with (first | ((with_reducible refine gate_callee (f := 31) rfl ?_); refine gL 42 Try.func31 #[.slice hX a5.length hY] ?_; (with_reducible refine (spec_copyStores.calls bD _ _ a5 dV _ ?s1 ?s2 jC.out).mono ?_); (case s1 => exact Z43 a1.out); (case s2 => exact (Kd.R_reads' a1.out).2.1); rintro e jU ⟨jD, rfl, ho0, hb⟩; refine ⟨_, rfl, ?_⟩; replace aE := A_ (Kd.V_elder' (Z22 aE.out) (Kd.R_base ho0) hb); have cI := A_ (Kd.R_lower (Kd.R_new' (Kd.R_new' ho0 (Kd.S_lt (Z29 aD.out))) (Kd.R_lt (Z12 a1.out))) (bz (Z4 aG.out aH.out))); replace aD := A_ (Kd.S_below (Z29 aD.out) hb); replace a1 := A_ (Kd.R_elder' (Z12 a1.out) (Kd.R_base ho0) hb); replace aA := A_ (bb (Z0 aA.out) hb); replace aC := A_ (bb (Z0 aC.out) hb); replace HB := A_ (bst (Z4 aG.out aH.out) hb); (try clear hb); (try clear ho0); obtain ⟨iA, iB, iC⟩ := Kd.R_slice cI.out; subst iC; obtain ⟨gB, gC, gD, gE, gF, gG⟩ := C3 aC.out))
       refine bodyPost_ret (results_cell_row rfl _ _ aK 26 #[.slice bF aM.length bG, .slice iA dV.length iB, .slice none 0 0] (0, 0) _ rfl (bp0 aC.out) Try.underlying26 rfl (by kernel_rfl)) rfl ?_
       exact ⟨_, _, _, Z11, Z56 aD.out aC.out, by (with_reducible repeat (first | apply Kd.R_alloc | apply Kd.R_drewN | apply Kd.R_drew)); exact Rm (Rf (Rf (Rf (Kd.R_types cI.out aC.out (by decide))))) (fun _ hk => ⟨hk.1.1.2, (by simp [Value.ownBlock])⟩), Z44, Z4 aG.out aH.out⟩
     ·rw [if_neg fA] at H
      exact absurd H (by simp)
end Go.Proofs.Ytgbbcebjgpoioaa.PFnHistRedo
