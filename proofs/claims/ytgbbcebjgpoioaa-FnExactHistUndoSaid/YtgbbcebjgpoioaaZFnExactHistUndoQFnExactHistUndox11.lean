/- Walks (lines of the print; no condition). -/
import Derived.Test.YtgbbcebjgpoioaaZFnExactHistUndoQFnExactHistUndox10
namespace Go.Proofs.Ytgbbcebjgpoioaa.PFnExactHistUndo
open Go.RowKit Go.Proofs.YtgbbcebjgpoioaaW.PrintWords Go.Proofs.YtgbbcebjgpoioaaW.PrintLast Go.Proofs.YtgbbcebjgpoioaaW.PrintMore
attribute [local go_sem] max2_int min2_int max_two min_two max_three min_three max_four min_four
set_option linter.unusedVariables false
set_option linter.unusedSimpArgs false
set_option maxHeartbeats 8000000
set_option maxRecDepth 100000
def spec_copyStores.l0 : Nat → List (List (S72)) → List (List (S72)) → Int → Option ((List (List (S72))))
 | 0, _, _, _ => none
 | k + 1, x0, x3, x4 => if x4 < (x0.length : Int) then (if 0 ≤ x4 then ((spec_copyStore.f k (rd_L7 x0 x4)).bind fun aA => (if x3.length < 5864062014805 then (spec_copyStores.l0 k x0 (x3 ++ [aA]) (wrap64 (x4 + 1))) else (none))) else (none)) else (some x3)
def spec_copyStores.f (k : Nat) (l0 : List (List (S72))) : Option ((List (List (S72)))) := spec_copyStores.l0 k l0 (([] : List (List (S72)))) 0
theorem spec_copyStores.calls (k : Nat) (A0 : Option Addr) (c0 : Nat) (l0 : List (List (S72))) (r : List (List (S72))) (w : World) (bA : Kd.C (Kd.slice 72 k72) w A0 l0.length l0) (hc0 : l0.length ≤ c0) (h : spec_copyStores.f k l0 = some r) :
  Calls Try.prog 31 #[.slice A0 l0.length c0] w fun e w' => ∃ bB : Value, e = .returned (bB) ∧ Kd.R (Kd.slice 72 k72) 23 w' w.heap.size (fun _ => True) bB r ∧ Below w.heap.size w w' := by
 have bF := A_ bA; have bK := A_ hc0; clear bA hc0; have HB := A_ (Below.refl w.heap.size w); have H := h; unfold spec_copyStores.f at H; clear h; obtain ⟨aX, aJ⟩ : ∃ y_ : List (List (S72)), y_ = (([] : List (List (S72)))) := ⟨_, rfl⟩; replace H : (spec_copyStores.l0 k l0 aX 0) = some r := yH aJ; have aR := A_ aJ; clear aJ; have H' := A_ H; clear H
 go_enter Try.func31, Try.ntmps31
 go_wp2_with (first | ((with_reducible refine gate_dst (N := 5) rfl ?_); refine Kd.R_lit (Kd.slice 72 k72) _ 23 ?hg (N := 5) ?hd (xs := ([] : List (List (S72)))) (inner := []) (ok := fun _ => True) (okp := fun _ => True) ?hr ?hp (fun _ hk => hk) trivial (Below.refl _ _) (Nat.le_refl _) (by simp) ?_; (case hd => rfl); (case hg => rfl); (case hr => exact Z36); (case hp => exact (Reps.none _ _)); intro bG w2 aY hb hg_ hnew_; clear hg_ hnew_; (first | rw [← aR.out] at aY | (simp only [Int.reduceToNat] at aY; rw [← aR.out] at aY)); have aZ := A_ (Kd.R_lower aY (bz Z1)); replace HB := A_ (bst Z1 hb); clear hb aY))
 go_loopg [3, 4] k (fun kq v3 v4 w' => ∃ (aH : List (List (S72))) (aA : Int), v4 = .int .i64 aA ∧ Aside0 (spec_copyStores.l0 kq l0 aH aA = some r) ∧ Aside0 (kq ≤ k) ∧ Aside0 (Kd.R (Kd.slice 72 k72) 23 w' w.heap.size (fun _ => True) v3 aH) ∧ Aside0 (Below w.heap.size w w'))
 case atStart => exact ⟨(aX), (0), Z17, H', ⟨Nat.le_refl _⟩, ⟨Z9 aZ.out⟩, ⟨Z1⟩⟩
 case round =>
  clear H'; obtain ⟨aH, aA, rfl, HA, bC, aI, HB⟩ := hrel
  cases gk with
  | zero => exact absurd HA.out (by simp [spec_copyStores.l0])
  | succ k1 =>
   have H := HA.out; clear HA; simp only [spec_copyStores.l0] at H
   by_cases c4 : aA < (l0.length : Int)
   ·rw [if_pos c4] at H
    have a2 := dt c4; clear c4
    by_cases c5 : 0 ≤ aA
    ·rw [if_pos c5] at H
     have bH := dt c5; clear c5; replace H := bS H; obtain ⟨aM, bD, H⟩ := H
     try dsimp only at H
     have A6 := A_ bD; clear bD
     by_cases c7 : aH.length < 5864062014805
     ·rw [if_pos c7] at H
      have a3 := A_ c7; clear c7; obtain ⟨a4, aC⟩ : ∃ y_ : List (List (S72)), y_ = (aH ++ [aM]) := ⟨_, rfl⟩
      first | rw [← aC, Option.bind_some] at H | rw [← aC] at H
      have a0 := A_ aC; clear aC; have H' := A_ H; clear H; have aT : 0 ≤ (aA : Int) := odt; have aU : aA < (l0.length : Int) := odt; obtain ⟨bE, aV, aW, a5, aD, aE, aG⟩ := at_L7 bF.out aA aT aU; cases a5; replace aD := ZC HB.out aD; have aN := A_ aG; have aQ := A_ aE; clear aG aE; replace aT := eq_true aT; replace aU := eq_true aU
      go_wp2_with (first | ((with_reducible refine gate_callee (f := 30) rfl ?_); refine gL 17 Try.func30 #[.slice aV (rd_L7 l0 aA).length aW] ?_; (with_reducible refine (spec_copyStore.calls k1 _ _ (rd_L7 l0 aA) aM _ ?s1 aQ.out A6.out).mono ?_); (case s1 => exact Z4 aN.out); rintro e w8 ⟨bI, rfl, a6, hb⟩; refine ⟨_, rfl, ?_⟩; replace aI := A_ (Kd.R_elder' (Z9 aI.out) (Kd.S_base a6) hb); have aK := A_ (Kd.S_lower a6 (bz Z1)); replace HB := A_ (bst Z1 hb); (try clear hb); (try clear a6); obtain ⟨a7, a8, a9⟩ := Kd.S_slice aK.out; subst a9) | ((with_reducible refine gate_builtin (b := .append) (xs := #[.tmp 12, .tmp 18]) rfl ?_); at_builtin; refine Kd.R_append (Kd.slice 72 k72) (w0 := w) w.heap.size rfl (.tmp 12) (.tmp 18) 24 23 (.slice none 0 0) 24 rfl Try.underlying24 info23 rfl (by decide) (by omega) u3 aH aM [.slice a7 aM.length a8] (fun _ => True) (fun k_ => ((fun _ => True)) k_ ∧ some k_ ≠ (u3 : Value).ownBlock) rfl rfl ?aP (fun _ hk => hk) ?aF ?aO ?aB ?aS ?aL ?_; (case aP => exact Kd.M_row (Rm (Kd.R_apart' ((Kd.S_R aK.out)) (Kd.R_typed aI.out) (by decide)) (fun k_ hk => ⟨trivial, hk.2⟩))); (case aB => exact Z1); (case aF => exact (fun _ _ => trivial)); (case aO => exact (by (with_reducible repeat (first | apply Kd.R_alloc | apply Kd.R_drewN | apply Kd.R_drew)); exact Rm aI.out (fun _ hk => trivial))); (case aS => exact (bz Z1)); (case aL => have := a3.out; omega); intro bJ w9 ho hb hg hat; rw [← a0.out] at ho; replace HB := A_ hb; have a1 := A_ ho; clear aI; clear aK; clear ho hb hg hat))
      go_roundg k1
      case measure => have := bC.out; omega
      case rel => exact ⟨(a4), (wrap64 (aA + 1)), Z17, H', ⟨by have := bC.out; omega⟩, ⟨Z9 a1.out⟩, ⟨Z1⟩⟩
     ·rw [if_neg c7] at H
      exact absurd H (by simp)
    ·rw [if_neg c5] at H
     exact absurd H (by simp)
   ·rw [if_neg c4] at H
    have a2 := df c4; clear c4; obtain rfl := Option.some.inj H
    go_wp2
    go_ret
    exact ⟨_, Z7, Z9 aI.out, Z1⟩
def spec_HistUndo.j0 : Nat → Bool → List (S72) → List (List (S72)) → List (List (S72)) → Option ((List (S72)) × (List (List (S72))) × (List (List (S72))) × Bool)
 | 0, _, _, _, _ => none
 | k + 1, aH, aB, aA, aC => if aH = true then (some (([] : List (S72)), ([] : List (List (S72))), ([] : List (List (S72))), false)) else (if 0 ≤ (wrap64 ((aA.length : Int) - 1)) then (if (wrap64 ((aA.length : Int) - 1)) < (aA.length : Int) then ((spec_copyStore.f k (rd_L7 aA (wrap64 ((aA.length : Int) - 1)))).bind fun aE => (if (wrap64 ((aA.length : Int) - 1)) ≤ (aA.length : Int) then ((spec_copyStores.f k (aA.take ((wrap64 ((aA.length : Int) - 1)) : Int).toNat)).bind fun aF => ((spec_copyStores.f k aC).bind fun aD => ((spec_copyStore.f k aB).bind fun aG => (if aD.length < 5864062014805 then (some (aE, aF, (aD ++ [aG]), true)) else (none))))) else (none))) else (none)) else (none))
def spec_HistUndo.f (k : Nat) (aB : List (S72)) (aA : List (List (S72))) (aC : List (List (S72))) : Option ((List (S72)) × (List (List (S72))) × (List (List (S72))) × Bool) := (spec_validHist.f k aB aA aC).bind fun aD => (if aD = true then (spec_HistUndo.j0 k ((aA.length : Int) == 0) aB aA aC) else (spec_HistUndo.j0 k true aB aA aC))
def spec_HistUndo.T4 : Bool × List (List Nat × List Nat) := (true, [([], []), ([0], [0]), ([], []), ([1, 2], [1, 2]), ([3], [3]), ([4], [4]), ([], []), ([6], [6]), ([], []), ([7, 8], [7, 8]), ([9, 5], [9]), ([], []), ([11], [11]), ([12, 10], [12]), ([], []), ([14], [14]), ([15, 13], [15]), ([16], [16]), ([13, 17, 16], [13, 17]), ([5, 10, 18], [5, 10, 18]), ([19, 18, 0, 1, 2, 3, 4, 5, 6, 7, 8, 9, 10, 11, 12, 13, 14, 15, 16, 17, 18, 19], [19]), ([20, 0, 1, 2, 3, 4, 5, 6, 7, 8, 9, 10, 11, 12, 13, 14, 15, 16, 17, 18, 19, 20], [])])
def spec_HistUndo.B4 : List Nat := [0, 1, 0, 7, 15, 31, 0, 64, 0, 448, 1023, 0, 2048, 8191, 0, 16384, 65535, 131071, 262143, 524287, 1048575, 2097151]
theorem spec_HistUndo.tab4 : rtab .any (opsOf Try.f9 4) = spec_HistUndo.T4 := by kernel_rfl
theorem spec_HistUndo.bits4 : waitsOk spec_HistUndo.T4.2 spec_HistUndo.B4 = true := by kernel_rfl
theorem spec_HistUndo.calls (k : Nat) (aY : Option Addr) (aZ : Nat) (aQ : List (S72)) (bE : Option Addr) (aW : Nat) (aG : List (List (S72))) (a0 : Option Addr) (a1 : Nat) (aR : List (List (S72))) (r1 : List (S72)) (r2 : List (List (S72))) (r3 : List (List (S72))) (r4 : Bool) (w : World) (bU : Kd.C k72 w aY aQ.length aQ) (bV : aQ.length ≤ aZ) (bW : Kd.C (Kd.slice 72 k72) w bE aG.length aG) (bX : aG.length ≤ aW) (bY : Kd.C (Kd.slice 72 k72) w a0 aR.length aR) (bZ : aR.length ≤ a1) (h : spec_HistUndo.f k aQ aG aR = some (r1, r2, r3, r4)) :
  Calls Try.prog 9 #[.agg #[.slice aY aQ.length aZ, .slice bE aG.length aW, .slice a0 aR.length a1]] w fun e w' => ∃ cY d8 d9 : Value, e = .returned (.tuple #[.agg #[cY, d8, d9], .bool r4]) ∧ Kd.S k72 72 w' w.heap.size (fun _ => True) cY r1 ∧ Kd.R (Kd.slice 72 k72) 23 w' w.heap.size (fun k_ => some k_ ≠ (cY : Value).ownBlock ∧ some k_ ≠ (d9 : Value).ownBlock) d8 r2 ∧ Kd.R (Kd.slice 72 k72) 23 w' w.heap.size (fun k_ => some k_ ≠ (cY : Value).ownBlock ∧ some k_ ≠ (d8 : Value).ownBlock) d9 r3 ∧ Below w.heap.size w w' := by
 have e7 := Try.underlying26; have bF := A_ bU; have bG := A_ bV; clear bU bV; have a5 := A_ bW; have bH := A_ bX; clear bW bX; have bI := A_ bY; have bJ := A_ bZ; clear bY bZ; have HB := A_ (Below.refl w.heap.size w); have H := h; unfold spec_HistUndo.f at H; clear h; have eA := A_ H; clear H
 go_enter Try.func9, Try.ntmps9
 go_upto_region 1 with (first | ((with_reducible refine gate_dst (N := 1) rfl ?_); (try (refine gate_guard (by rfl) ?_; dsimp only)); refine be (cs := #[.slice aY aQ.length aZ, .slice bE aG.length aW, .slice a0 aR.length a1]) (t := 26) ?_; intro aX hg w3 hbox hb; have aA := A_ hbox; have cD := A_ (gl hg (bz Z1)); have aH := cD; replace HB := A_ (bst Z1 hb); clear hb hbox hg) | ((with_reducible refine gate_dst (N := 2) rfl ?_); (try (refine gate_guard (by rfl) ?_; dsimp only)); refine be (cs := #[.slice none 0 0, .slice none 0 0, .slice none 0 0]) (t := 26) ?_; intro aT hg w4 hbox hb; have aD := A_ hbox; have a6 := A_ (gl hg (bz (Z3 aH.out))); have aJ := a6; replace HB := A_ (bst (Z3 aH.out) hb); have aC := A_ ((by rw [hg]; exact nl (blk_lt (Z2 aA.out)) : aX ≠ aT)); have aI := A_ ((by rw [hg]; exact Nat.ne_of_gt (blk_lt (Z2 aA.out)) : aT ≠ aX)); replace aA := A_ (bb (Z2 aA.out) hb); clear hb hbox hg))
 (try simp only [Act.put, List.setIfInBounds_toArray, List.set_cons_zero, List.set_cons_succ])
 go_cut [13] (fun e8 wc => ∃ (kq : Nat) (a7 : Bool), e8 = .bool a7 ∧ Aside0 (spec_HistUndo.j0 kq a7 aQ aG aR = some (r1, r2, r3, r4)) ∧ Aside0 (kq ≤ k) ∧ Aside0 (wc.heap[aX]? = some (.cells #[(.slice aY aQ.length aZ), (.slice bE aG.length aW), (.slice a0 aR.length a1)] 26 (0, 0))) ∧ Aside0 (wc.heap[aT]? = some (.cells #[(.slice none 0 0), (.slice none 0 0), (.slice none 0 0)] 26 (0, 0))) ∧ Aside0 (Below w.heap.size w wc))
 case first =>
  have H := eA.out; clear eA; replace H := bS H; obtain ⟨eB, eS, H⟩ := H
  try dsimp only at H
  have A5 := A_ eS; clear eS
  by_cases c6 : eB = true
  ·subst c6
   rw [if_pos rfl] at H; have H' := A_ H; clear H; have e9 := aC.out; have fA := aI.out; obtain ⟨eC, eD, eE, eF, eG, eH⟩ := C3 aA.out
   go_wp2_with (first | ((with_reducible refine gate_callee (f := 24) rfl ?_); refine gL 6 Try.func24 #[.agg #[.slice aY aQ.length aZ, .slice bE aG.length aW, .slice a0 aR.length a1]] ?_; (with_reducible refine (spec_validHist.calls k _ _ aQ _ _ aG _ _ aR true _ ?s1 bG.out ?s3 bH.out ?s5 bJ.out A5.out).mono ?_); (case s1 => exact Z4 bF.out); (case s3 => exact Z4 a5.out); (case s5 => exact Z4 bI.out); rintro e w9 ⟨rfl, hb⟩; refine ⟨_, rfl, ?_⟩; replace aA := A_ (bb (Z2 aA.out) hb); replace aD := A_ (bb (Z2 aD.out) hb); replace HB := A_ (bst (Z5 aH.out aJ.out) hb); (try clear hb); obtain ⟨cZ, dA, dB, dC, dD, dE⟩ := C3 aA.out))
   go_meet
   case rel => exact ⟨_, (((aG.length : Int) == 0)), Z17, H', ⟨by first | omega | exact Nat.le_refl _⟩, ⟨Z2 aA.out⟩, ⟨Z2 aD.out⟩, ⟨Z5 aH.out aJ.out⟩⟩
  ·replace c6 := Bool.eq_false_iff.mpr c6
   subst c6; rw [if_neg (show ¬ (false = true) by decide)] at H; have H' := A_ H; clear H; have eT := aC.out; have eU := aI.out; obtain ⟨dF, dG, dH, dI, dJ, dK⟩ := C3 aA.out
   go_wp2_with (first | ((with_reducible refine gate_callee (f := 24) rfl ?_); refine gL 6 Try.func24 #[.agg #[.slice aY aQ.length aZ, .slice bE aG.length aW, .slice a0 aR.length a1]] ?_; (with_reducible refine (spec_validHist.calls k _ _ aQ _ _ aG _ _ aR false _ ?s1 bG.out ?s3 bH.out ?s5 bJ.out A5.out).mono ?_); (case s1 => exact Z4 bF.out); (case s3 => exact Z4 a5.out); (case s5 => exact Z4 bI.out); rintro e fM ⟨rfl, hb⟩; refine ⟨_, rfl, ?_⟩; replace aA := A_ (bb (Z2 aA.out) hb); replace aD := A_ (bb (Z2 aD.out) hb); replace HB := A_ (bst (Z5 aH.out aJ.out) hb); (try clear hb)))
   go_meet
   case rel => exact ⟨_, (true), Z17, H', ⟨by first | omega | exact Nat.le_refl _⟩, ⟨Z2 aA.out⟩, ⟨Z2 aD.out⟩, ⟨Z5 aH.out aJ.out⟩⟩
 case rest =>
  clear eA; try clear c6
  obtain ⟨kq, a7, rfl, HA, fN, aA, aD, HB⟩ := hcut
  cases kq with
  | zero => exact absurd HA.out (by simp [spec_HistUndo.j0])
  | succ dL =>
   have H := HA.out; clear HA; simp only [spec_HistUndo.j0] at H
   by_cases dM : a7 = true
   ·subst dM
    rw [if_pos rfl] at H; simp only [Option.some.injEq, Prod.mk.injEq] at H; obtain ⟨rfl, rfl, rfl, rfl⟩ := H; have eV := aI.out; have eW := aC.out; obtain ⟨dN, dO, dP, dQ, dR, dS⟩ := C3 aD.out
    go_wp2
    refine bodyPost_ret (results_ct rfl _ _ aT 26 #[.slice none 0 0, .slice none 0 0, .slice none 0 0] (0, 0) _ rfl (bp0 aD.out) Try.underlying26 rfl (by kernel_rfl)) rfl ?_
    exact ⟨_, _, _, Z7, by first | exact Kd.S_nil _ _ _ _ _ | exact Kd.N_nil _ _ _ _ _ | exact Kd.V_nil _ _ _ _ _ | exact Kd.Q_nil _ _ _ _ _ | exact Kd.R_nil _ _ _ _ _, by first | exact Kd.R_nil _ _ _ _ _ | exact Kd.N_nil _ _ _ _ _ | exact Kd.V_nil _ _ _ _ _ | exact Kd.Q_nil _ _ _ _ _ | exact Kd.S_nil _ _ _ _ _, by first | exact Kd.R_nil _ _ _ _ _ | exact Kd.N_nil _ _ _ _ _ | exact Kd.V_nil _ _ _ _ _ | exact Kd.Q_nil _ _ _ _ _ | exact Kd.S_nil _ _ _ _ _, Z5 aH.out aJ.out⟩
   ·replace dM := Bool.eq_false_iff.mpr dM
    subst dM; rw [if_neg (show ¬ (false = true) by decide)] at H; obtain ⟨aM, a2⟩ : ∃ j_ : Int, (wrap64 ((aG.length : Int) - 1)) = j_ := ⟨_, rfl⟩
    first | rw [a2] at H | simp only [a2] at H
    have eI : (IntKind.i64.wrap ((aG.length : Int) - 1)) = aM := (i64_w _).trans a2
    by_cases dT : 0 ≤ (aM)
    ·rw [if_pos dT] at H
     have eX := dt dT; clear dT
     by_cases dU : (aM) < (aG.length : Int)
     ·rw [if_pos dU] at H
      have eY := dt dU; clear dU; replace H := bS H; obtain ⟨cE, cF, H⟩ := H
      try dsimp only at H
      have fB := A_ cF; clear cF; have eZ := eq_true (odt : 0 ≤ (aM))
      by_cases cG : (aM) ≤ (aG.length : Int)
      ·rw [if_pos cG] at H
       have e0 := eq_true cG; have e1 := dt cG; clear cG; obtain ⟨bQ, a8⟩ : ∃ y_ : List (List (S72)), y_ = (aG.take ((aM) : Int).toNat) := ⟨_, rfl⟩
       first | rw [← a8, Option.bind_some] at H | rw [← a8] at H
       have b0 := A_ a8; clear a8; replace H := bS H; obtain ⟨cH, cI, H⟩ := H
       try dsimp only at H
       have fC := A_ cI; clear cI; replace H := bS H; obtain ⟨bR, cJ, H⟩ := H
       try dsimp only at H
       have fD := A_ cJ; clear cJ; replace H := bS H; obtain ⟨bK, cK, H⟩ := H
       try dsimp only at H
       have fE := A_ cK; clear cK
       by_cases dV : bR.length < 5864062014805
       ·rw [if_pos dV] at H
        have cL := A_ dV; clear dV; obtain ⟨eJ, a9⟩ : ∃ y_ : List (List (S72)), y_ = (bR ++ [bK]) := ⟨_, rfl⟩
        first | rw [← a9, Option.bind_some] at H | rw [← a9] at H
        have cM := A_ a9; clear a9; simp only [Option.some.injEq, Prod.mk.injEq] at H; obtain ⟨rfl, rfl, rfl, rfl⟩ := H; have e2 := aC.out; have e3 := aI.out; obtain ⟨dW, dX, dY, dZ, d0, d1⟩ := C3 aA.out
        try go_wp2
        replace aA := A_ (blk_drew aA.out); replace aD := A_ (blk_drew aD.out); replace HB := A_ (below_drew1 HB.out); have b4 : 0 ≤ ((aM) : Int) := odt; have b5 : (aM) < (aG.length : Int) := odt; obtain ⟨a3, bL, bM, eK, aV, bA, bB⟩ := at_L7 a5.out (aM) b4 b5; have aE := aV; cases eK; replace aV := ZC HB.out aV; have bC := A_ bB; have bT := A_ bA; clear bB bA; replace b4 := eq_true b4; replace b5 := eq_true b5; have eL : ((aM) : Int) ≤ ((aG.length : Int) : Int) := odt; obtain ⟨fF, b1, _, cN, _⟩ := info_parts info23; have bD : aG.length ≤ aW := bH.out; have cO : Kd.C (Kd.slice 72 k72) _ (some a3) aG.length aG := a5.out; have b6 := cut_to (P := Try.prog) 24 23 .i64 Try.underlying24 b1 (some a3) aG.length aW (aM) (odt) eL bD; have b7 := Kd.C_take (m := ((aM) : Int).toNat) cO (by omega); have b8 : bQ.length = ((aM) : Int).toNat := (by rw [b0.out, List.length_take]; omega); rw [← b0.out] at b7; rw [← b8] at b6; have b2 := A_ b7; have cP := A_ (show bQ.length ≤ aW from by omega); clear b7 cO bD b1 cN; have fG := A_ b8; clear b8; replace eL := eq_true eL
        refine start_ (n := 22) (S := fun w' => w'.cell? ⟨aX, 0, none⟩ = some (.slice aY aQ.length aZ) ∧ w'.cell? ⟨aX, 1, none⟩ = some (.slice (some a3) aG.length aW) ∧ w'.cell? ⟨aX, 2, none⟩ = some (.slice a0 aR.length a1) ∧ w'.cell? (a3.add ((aM)).toNat) = some (.slice bL (rd_L7 aG (aM)).length bM)) (ds := []) #[F,F,F,F,F,F,F,F,F,F,F,F,F,F,F,F,F,F,F,F,F,F] (by kernel_rfl) rfl rfl ⟨(bc aA.out 0).trans rfl, (bc aA.out 1).trans rfl, (bc aA.out 2).trans rfl, (ZC HB.out aE :)⟩ (fun hHeld => ?_); refine with_tabW spec_HistUndo.tab4 spec_HistUndo.bits4 (fun HT_ HW_ => ?_)
        generalize wc.drew = fO at aA aD HB bC b2 aV hHeld ⊢; refine pU 0 19 #[T,F,F,F,F,F,F,F,F,F,F,F,F,F,F,F,F,F,F,F,F,F] ?_; refine pU 2 21 #[T,F,T,F,F,F,F,F,F,F,F,F,F,F,F,F,F,F,F,F,F,F] ?_; refine pU 6 25 #[T,F,T,F,F,F,T,F,F,F,F,F,F,F,F,F,F,F,F,F,F,F] ?_; refine pU 8 27 #[T,F,T,F,F,F,T,F,T,F,F,F,F,F,F,F,F,F,F,F,F,F] ?_; refine pU 11 30 #[T,F,T,F,F,F,T,F,T,F,F,T,F,F,F,F,F,F,F,F,F,F] ?_; refine pU 14 33 #[T,F,T,F,F,F,T,F,T,F,F,T,F,F,T,F,F,F,F,F,F,F] ?_; refine tU 1 20 #[T,T,T,F,F,F,T,F,T,F,F,T,F,F,T,F,F,F,F,F,F,F] ?_ (y := Z30); refine pU 3 22 #[T,T,T,T,F,F,T,F,T,F,F,T,F,F,T,F,F,F,F,F,F,F] ?_; refine tU 4 23 #[T,T,T,T,T,F,T,F,T,F,F,T,F,F,T,F,F,F,F,F,F,F] ?_ (y := Z30); refine tU 7 26 #[T,T,T,T,T,F,T,T,T,F,F,T,F,F,T,F,F,F,F,F,F,F] ?_ (y := Z30); refine pU 9 28 #[T,T,T,T,T,F,T,T,T,T,F,T,F,F,T,F,F,F,F,F,F,F] ?_; refine tU 12 31 #[T,T,T,T,T,F,T,T,T,T,F,T,T,F,T,F,F,F,F,F,F,F] ?_ (y := Z30); refine tU 15 34 #[T,T,T,T,T,F,T,T,T,T,F,T,T,F,T,T,F,F,F,F,F,F] ?_ (y := Z30)
        refine oU 5 (some 24) #[T,T,T,T,T,T,T,T,T,T,F,T,T,F,T,T,F,F,F,F,F,F] (fun K hK => ?_)
        refine goes_ Try.func30 (by kernel_rfl) rfl #[.slice bL (rd_L7 aG (aM)).length bM] (by rfl) rfl rfl (by (try simp only [List.map_toArray, List.map_cons, List.map_nil]); first | done | (simp only [a2]; rfl) | rfl | (simp only [List.length_drop, List.length_take]; rfl)) ?_
        with_reducible refine (spec_copyStore.calls dL _ _ (rd_L7 aG (aM)) cE _ ?s1 ?s2 fB.out).mono ?_
        (case s1 => exact Z4 bC.out)
        (case s2 => exact bT.out)
        rintro e fP ⟨b9, rfl, a4, hb⟩
        refine ⟨_, rfl, ?_⟩
        have aK := A_ (Kd.S_lower a4 (bz (Z5 aH.out aJ.out))); replace aA := A_ (bb (Z2 aA.out) hb); replace aD := A_ (bb (Z2 aD.out) hb); replace HB := A_ (bst (Z5 aH.out aJ.out) hb); (try clear hb); (try clear eM); (try clear hk); (try clear hi); (try clear a4)
        refine hK.out _ _ ⟨(bc aA.out 0).trans rfl, (bc aA.out 1).trans rfl, (bc aA.out 2).trans rfl, (ZC HB.out aE :)⟩ (fun hHeld => ?_)
        clear hK K
        refine norm_ (a' := ?_) ?_ ?_
        rotate_left
        ·show Act.put _ (some 24) _ = _
         simp only [Act.put, List.setIfInBounds_toArray, List.set_cons_zero, List.set_cons_succ, i64_w, i32_w]
         rfl
        refine oU 10 (some 29) #[T,T,T,T,T,T,T,T,T,T,T,T,T,F,T,T,F,F,F,F,F,F] (fun K hK => ?_)
        refine goes_ Try.func31 (by kernel_rfl) rfl #[.slice (some a3) bQ.length aW] (by rfl) rfl rfl Z16 ?_
        with_reducible refine (spec_copyStores.calls dL _ _ bQ cH _ ?s1 ?s2 fC.out).mono ?_
        (case s1 => exact Z4 b2.out)
        (case s2 => exact cP.out)
        rintro e fQ ⟨cQ, rfl, a4, hb⟩
        refine ⟨_, rfl, ?_⟩
        have aN := A_ (Kd.R_lower (Kd.R_new' a4 (Kd.S_lt (Z8 aK.out))) (bz (Z5 aH.out aJ.out))); replace aK := A_ (Kd.S_below (Z8 aK.out) hb); replace aA := A_ (bb (Z2 aA.out) hb); replace aD := A_ (bb (Z2 aD.out) hb); replace HB := A_ (bst (Z5 aH.out aJ.out) hb); (try clear hb); (try clear eM); (try clear hk); (try clear hi); (try clear a4)
        refine hK.out _ _ ⟨(bc aA.out 0).trans rfl, (bc aA.out 1).trans rfl, (bc aA.out 2).trans rfl, (ZC HB.out aE :)⟩ (fun hHeld => ?_)
        clear hK K
        refine norm_ (a' := ?_) ?_ ?_
        rotate_left
        ·show Act.put _ (some 29) _ = _
         simp only [Act.put, List.setIfInBounds_toArray, List.set_cons_zero, List.set_cons_succ, i64_w, i32_w]
         rfl
        refine oU 13 (some 32) #[T,T,T,T,T,T,T,T,T,T,T,T,T,T,T,T,F,F,F,F,F,F] (fun K hK => ?_)
        refine goes_ Try.func31 (by kernel_rfl) rfl #[.slice a0 aR.length a1] (by rfl) rfl rfl Z16 ?_
        with_reducible refine (spec_copyStores.calls dL _ _ aR bR _ ?s1 ?s2 fD.out).mono ?_
        (case s1 => exact Z4 bI.out)
        (case s2 => exact bJ.out)
        rintro e fR ⟨cR, rfl, a4, hb⟩
        refine ⟨_, rfl, ?_⟩
        have aU := A_ (Kd.R_lower (Kd.R_new' (Kd.R_new' a4 (Kd.S_lt (Z8 aK.out))) (Kd.R_lt (Z9 aN.out))) (bz (Z5 aH.out aJ.out))); replace aK := A_ (Kd.S_below (Z8 aK.out) hb); replace aN := A_ (Kd.R_elder' (Z9 aN.out) (Kd.R_base a4) hb); replace aA := A_ (bb (Z2 aA.out) hb); replace aD := A_ (bb (Z2 aD.out) hb); replace HB := A_ (bst (Z5 aH.out aJ.out) hb); (try clear hb); (try clear eM); (try clear hk); (try clear hi); (try clear a4)
        refine hK.out _ _ ⟨(bc aA.out 0).trans rfl, (bc aA.out 1).trans rfl, (bc aA.out 2).trans rfl, (ZC HB.out aE :)⟩ (fun hHeld => ?_)
        clear hK K
        refine norm_ (a' := ?_) ?_ ?_
        rotate_left
        ·show Act.put _ (some 32) _ = _
         simp only [Act.put, List.setIfInBounds_toArray, List.set_cons_zero, List.set_cons_succ, i64_w, i32_w]
         rfl
        refine oU 16 (some 35) #[T,T,T,T,T,T,T,T,T,T,T,T,T,T,T,T,T,F,F,F,F,F] (fun K hK => ?_)
        refine goes_ Try.func30 (by kernel_rfl) rfl #[.slice aY aQ.length aZ] (by rfl) rfl rfl Z16 ?_
        with_reducible refine (spec_copyStore.calls dL _ _ aQ bK _ ?s1 ?s2 fE.out).mono ?_
        (case s1 => exact Z4 bF.out)
        (case s2 => exact bG.out)
        rintro e fS ⟨fH, rfl, a4, hb⟩
        refine ⟨_, rfl, ?_⟩
        replace aN := A_ (Kd.R_elder' (Z9 aN.out) (Kd.S_base a4) hb); replace aU := A_ (Kd.R_elder' (Z9 aU.out) (Kd.S_base a4) hb); have bN := A_ (Kd.S_lower (Kd.S_new' a4 (Kd.S_lt (Z8 aK.out))) (bz (Z5 aH.out aJ.out))); replace aK := A_ (Kd.S_elder' (Z8 aK.out) (Kd.S_base a4) hb); replace aA := A_ (bb (Z2 aA.out) hb); replace aD := A_ (bb (Z2 aD.out) hb); replace HB := A_ (bst (Z5 aH.out aJ.out) hb); (try clear hb); (try clear eM); (try clear hk); (try clear hi); (try clear a4); obtain ⟨cS, cT, cU⟩ := Kd.S_slice bN.out; (first | subst cU | (injection cU with bO cA bP; have cB := bO.symm; have cC := bP.symm; clear bO cA bP; subst cB; subst cC))
        refine hK.out _ _ ⟨(bc aA.out 0).trans rfl, (bc aA.out 1).trans rfl, (bc aA.out 2).trans rfl, (ZC HB.out aE :)⟩ (fun hHeld => ?_)
        clear hK K
        refine norm_ (a' := ?_) ?_ ?_
        rotate_left; (·exact Z46)
        refine oU 17 (some 36) #[T,T,T,T,T,T,T,T,T,T,T,T,T,T,T,T,T,T,F,F,F,F] (fun K hK => ?_)
        refine value_ (w1 := ?_) (v := ?_) (by rfl) rfl ?_ ?_
        rotate_left 2
        ·go_simp
         constructor
         ·rfl
         ·rfl
        refine hK.out _ _ ⟨(bc (blk_alloc aA.out _) 0).trans rfl, (bc (blk_alloc aA.out _) 1).trans rfl, (bc (blk_alloc aA.out _) 2).trans rfl, (World.cell?_alloc_lt _ _ _ (World.block_lt_of_cell? _ _ ((ZC HB.out aE :)))).trans ((ZC HB.out aE :))⟩ (fun hHeld => ?_)
        clear hK K
        refine norm_ (a' := ?_) ?_ ?_
        rotate_left
        ·show Act.put _ (some 36) _ = _
         simp only [Act.put, List.setIfInBounds_toArray, List.set_cons_zero, List.set_cons_succ, i64_w, i32_w]
         rfl
        refine oU 18 (some 37) #[T,T,T,T,T,T,T,T,T,T,T,T,T,T,T,T,T,T,T,F,F,F] (fun K hK => ?_)
        refine Kd.R_append_step (Kd.slice 72 k72) (w0 := w) w.heap.size (by rfl) (.tmp 32) (.tmp 36) 24 23 (.slice none 0 0) 24 rfl Try.underlying24 info23 rfl (by decide) (by omega) cR bR bK [.slice cS bK.length cT] (fun k_ => some k_ ≠ (b9 : Value).ownBlock ∧ some k_ ≠ (cQ : Value).ownBlock) (fun k_ => ((fun k_ => some k_ ≠ (b9 : Value).ownBlock ∧ some k_ ≠ (cQ : Value).ownBlock)) k_ ∧ some k_ ≠ (cR : Value).ownBlock) rfl rfl ?aP (fun _ hk => hk) ?aF ?aO ?aB ?aS ?aL ?_
        (case aP => exact Kd.M_row (Rm (Kd.R_apart' (Kd.R_apart' ((Kd.S_R bN.out)) (Kd.R_typed aN.out) (by decide)) (Kd.R_typed aU.out) (by decide)) (fun k_ hk => ⟨⟨hk.1.1.2, hk.1.2⟩, hk.2⟩)))
        (case aB => exact (Z5 aH.out aJ.out))
        (case aF => exact (fun k_ hk => ⟨Kd.fresh' (Kd.S_lt (Z8 aK.out)) k_ hk, Kd.fresh' (Kd.R_lt (Z9 aN.out)) k_ hk⟩))
        (case aO => exact (by (with_reducible repeat (first | apply Kd.R_alloc | apply Kd.R_drewN | apply Kd.R_drew)); exact Rm aU.out (fun _ hk => ⟨hk.1.1.2, hk.1.2⟩)))
        (case aS => exact (bz (Z5 aH.out aJ.out)))
        (case aL => have := cL.out; omega)
        intro fI eN ho hb hg hat
        rw [← cM.out] at ho; replace aA := A_ (blk_grown (Z2 aA.out) hg (Kd.R_ne aU.out aA.out (by decide))); replace aD := A_ (blk_grown (Z2 aD.out) hg (Kd.R_ne aU.out aD.out (by decide))); replace aK := A_ (Kd.S_over' (Z8 aK.out) (Kd.R_typed (Z9 aU.out)) (by decide) hg); replace aN := A_ (Kd.R_after (ok := (fun k_ => some k_ ≠ (b9 : Value).ownBlock ∧ ob k_ cS bK cT)) (by (with_reducible repeat (first | apply Kd.R_alloc | apply Kd.R_drewN | apply Kd.R_drew)); exact Rm aN.out (fun _ hk => ⟨⟨hk.1.1.2, hk.2⟩, hk.1.2⟩)) hg hat); replace HB := A_ hb; have b3 := A_ ho; clear aU; clear bN; clear ho hb hg hat; obtain ⟨eO, eP, cV⟩ := Kd.R_slice b3.out; (first | subst cV | (injection cV with bO cA bP; have cB := bO.symm; have cC := bP.symm; clear bO cA bP; subst cB; subst cC)); obtain ⟨Ao38, co38, cW⟩ := Kd.R_slice aN.out; (first | subst cW | (injection cW with bO cA bP; have cB := bO.symm; have cC := bP.symm; clear bO cA bP; subst cB; subst cC)); obtain ⟨eQ, eR, cX⟩ := Kd.S_slice aK.out; (first | subst cX | (injection cX with bO cA bP; have cB := bO.symm; have cC := bP.symm; clear bO cA bP; subst cB; subst cC))
        refine hK.out _ _ ⟨(bc aA.out 0).trans rfl, (bc aA.out 1).trans rfl, (bc aA.out 2).trans rfl, (ZC HB.out aE :)⟩ (fun hHeld => ?_)
        clear hK K
        refine norm_ (a' := ?_) ?_ ?_
        rotate_left
        ·show Act.put _ (some 37) _ = _
         simp only [Act.put, List.setIfInBounds_toArray, List.set_cons_zero, List.set_cons_succ, i64_w, i32_w]
         rfl
        refine pU 19 38 #[T,T,T,T,T,T,T,T,T,T,T,T,T,T,T,T,T,T,T,T,F,F] ?_
        refine oU 20 none #[T,T,T,T,T,T,T,T,T,T,T,T,T,T,T,T,T,T,T,T,T,F] (fun K hK => ?_)
        have fJ : eN.cell? ⟨aT, 0, none⟩ = some (.slice none 0 0) := (bc aD.out 0).trans rfl; have e4 := blk_frozen aD.out 0; have d2 := aC.out; have d3 := aI.out; have fK : eN.cell? ⟨aT, 1, none⟩ = some (.slice none 0 0) := (bc aD.out 1).trans rfl; have e5 := blk_frozen aD.out 1; have d4 := aC.out; have d5 := aI.out; have fL : eN.cell? ⟨aT, 2, none⟩ = some (.slice none 0 0) := (bc aD.out 2).trans rfl; have e6 := blk_frozen aD.out 2; have d6 := aC.out; have d7 := aI.out
        refine skip_ (w1 := ?_) (by rfl) rfl ?_ ?_
        rotate_left
        ·go_simp
         rfl
        refine hK.out _ _ ⟨(cf aC.out (cf aC.out (cf aC.out hHeld.1))), (cf aC.out (cf aC.out (cf aC.out hHeld.2.1))), (cf aC.out (cf aC.out (cf aC.out hHeld.2.2.1))), (cf (nb aE a6.out) (cf (nb aE a6.out) (cf (nb aE a6.out) hHeld.2.2.2)))⟩ (fun hHeld => ?_)
        clear hK K; refine pU 21 3 #[T,T,T,T,T,T,T,T,T,T,T,T,T,T,T,T,T,T,T,T,T,T] ?_
        refine done_ (done_of HT_.out (by kernel_rfl)) ?_
        try go_wp2
        refine bodyPost_ret (results_ct rfl _ _ aT 26 #[.slice eQ cE.length eR, .slice Ao38 cH.length co38, .slice eO eJ.length eP] (0, 0) _ rfl (bp0 aD.out) Try.underlying26 rfl (by kernel_rfl)) rfl ?_
        exact ⟨_, _, _, by first | rfl | (simp [errW_none, errW_some] <;> rfl) | (simp only [← a2]; first | rfl | (simp [errW_none, errW_some] <;> rfl)) | (simp [*, errW_none, errW_some] <;> rfl), by (with_reducible repeat (first | apply Kd.S_alloc | apply Kd.S_drewN | apply Kd.S_drew)); exact Kd.S_mono (Sf (Sf (Sf (Kd.S_types aK.out aD.out (by decide))))) (fun _ hk => trivial), by (with_reducible repeat (first | apply Kd.R_alloc | apply Kd.R_drewN | apply Kd.R_drew)); exact Rm (Rf (Rf (Rf (Kd.R_types aN.out aD.out (by decide))))) (fun _ hk => ⟨hk.1.1.1, hk.1.2⟩), by (with_reducible repeat (first | apply Kd.R_alloc | apply Kd.R_drewN | apply Kd.R_drew)); exact Rm (Rf (Rf (Rf (Kd.R_types b3.out aD.out (by decide))))) (fun _ hk => ⟨hk.1.1, hk.1.2⟩), Z5 aH.out aJ.out⟩
       ·rw [if_neg dV] at H
        exact absurd H (by simp)
      ·rw [if_neg cG] at H
       exact absurd H (by simp)
     ·rw [if_neg dU] at H
      exact absurd H (by simp)
    ·rw [if_neg dT] at H
     exact absurd H (by simp)
def laws_szSlotS.f (l0 : List (S127)) (a1 : Int) : Option (Int) := if (wrap64 (a1 - (l0.length : Int))) < 0 then (some (-1)) else (some (wrap64 (a1 - (l0.length : Int))))
theorem laws_szSlotS.calls (A0 : Option Addr) (c0 : Nat) (l0 : List (S127)) (a1 : Int) (r : Int) (w : World) (aB : Kd.C k127 w A0 l0.length l0) (hc0 : l0.length ≤ c0) (h : laws_szSlotS.f l0 a1 = some r) :
  Calls Try.prog 83 #[.slice A0 l0.length c0, .int .i64 a1] w fun e w' => e = .returned (.int .i64 r) ∧ Drawn0 w w' := by
 have aC := A_ aB; have aD := A_ hc0; clear aB hc0; have H := h; unfold laws_szSlotS.f at H; clear h
 by_cases c3 : (wrap64 (a1 - (l0.length : Int))) < 0
 ·rw [if_pos c3] at H
  have aA := dt c3; clear c3; obtain rfl := Option.some.inj H
  go_enter Try.func83, Try.ntmps83
  go_wp2
  go_ret
  exact ⟨Z17, Z23⟩
 ·rw [if_neg c3] at H
  have aA := df c3; clear c3; obtain rfl := Option.some.inj H
  go_enter Try.func83, Try.ntmps83
  go_wp2
  go_ret
  exact ⟨Z17, Z23⟩
def laws_szValue.f (aB : Int) (aC : Int) (aA : ByteArray) (a1 : Int) : Option (Int) := if (wrap64 (a1 - (aA.size : Int))) < 0 then (some (-1)) else (some (wrap64 (a1 - (aA.size : Int))))
theorem laws_szValue.calls (aE : Int) (aF : Int) (aA : ByteArray) (a1 : Int) (r : Int) (w : World) (h : laws_szValue.f aE aF aA a1 = some r) :
  Calls Try.prog 99 #[.agg #[.int .i64 aE, .int .i64 aF, .string aA], .int .i64 a1] w fun e w' => e = .returned (.int .i64 r) ∧ Below w.heap.size w w' := by
 have aU := Try.underlying125; have HB := A_ (Below.refl w.heap.size w); have H := h; unfold laws_szValue.f at H; clear h
 by_cases c3 : (wrap64 (a1 - (aA.size : Int))) < 0
 ·rw [if_pos c3] at H
  have aH := dt c3; clear c3; obtain rfl := Option.some.inj H
  go_enter Try.func99, Try.ntmps99
  go_wp2_with (first | ((with_reducible refine gate_dst (N := 2) rfl ?_); refine be (cs := #[.int .i64 aE, .int .i64 aF, .string aA]) (t := 125) ?_; intro aG hg w4 hbox hb; have aB := A_ hbox; have aC := A_ (gl hg (bz Z1)); have aD := aC; replace HB := A_ (bst Z1 hb); clear hb hbox hg; obtain ⟨aI, aJ, aK, aL, aM, aN⟩ := C3 aB.out))
  go_ret
  exact ⟨Z7, Z3 aD.out⟩
 ·rw [if_neg c3] at H
  have aH := df c3; clear c3; obtain rfl := Option.some.inj H
  go_enter Try.func99, Try.ntmps99
  go_wp2_with (first | ((with_reducible refine gate_dst (N := 2) rfl ?_); refine be (cs := #[.int .i64 aE, .int .i64 aF, .string aA]) (t := 125) ?_; intro aG hg w6 hbox hb; have aB := A_ hbox; have aC := A_ (gl hg (bz Z1)); have aD := aC; replace HB := A_ (bst Z1 hb); clear hb hbox hg; obtain ⟨aO, aP, aQ, aR, aS, aT⟩ := C3 aB.out))
  go_ret
  exact ⟨Z7, Z3 aD.out⟩
end Go.Proofs.Ytgbbcebjgpoioaa.PFnExactHistUndo
