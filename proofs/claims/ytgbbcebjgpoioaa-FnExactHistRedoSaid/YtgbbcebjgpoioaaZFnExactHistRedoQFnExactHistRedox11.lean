/- Walks (lines of the print; no condition). -/
import Derived.Test.YtgbbcebjgpoioaaZFnExactHistRedoQFnExactHistRedox10
namespace Go.Proofs.Ytgbbcebjgpoioaa.PFnExactHistRedo
open Go.RowKit Go.Proofs.YtgbbcebjgpoioaaW.PrintWords Go.Proofs.YtgbbcebjgpoioaaW.PrintLast Go.Proofs.YtgbbcebjgpoioaaW.PrintMore
attribute [local go_sem] max2_int min2_int max_two min_two max_three min_three max_four min_four
set_option linter.unusedVariables false
set_option linter.unusedSimpArgs false
set_option maxHeartbeats 8000000
set_option maxRecDepth 100000
def spec_copyStores.l0 : Nat → List (List (S72)) → List (List (S72)) → Int → Option ((List (List (S72))))
 | 0, _, _, _ => none
 | k + 1, x0, x3, x4 => if x4 < (x0.length : Int) then (if 0 ≤ x4 then ((spec_copyStore.f k (rd_L7 x0 x4)).bind fun aA => (if x3.length < 5864062014805 then (spec_copyStores.l0 k x0 (x3 ++ [aA]) (wrap64 (x4 + 1))) else (none))) else (none)) else (some x3)
def spec_copyStores.f (k : Nat) (l0 : List (List (S72))) : Option ((List (List (S72)))) := spec_copyStores.l0 k l0 (([] : List (List (S72)))) 0
theorem spec_copyStores.calls (k : Nat) (A0 : Option Addr) (c0 : Nat) (l0 : List (List (S72))) (r : List (List (S72))) (w : World) (bA : Kd.C (Kd.slice 72 k72) w A0 l0.length l0) (hc0 : l0.length ≤ c0) (h : spec_copyStores.f k l0 = some r) :
  Calls Try.prog 31 #[.slice A0 l0.length c0] w fun e w' => ∃ bB : Value, e = .returned (bB) ∧ Kd.R (Kd.slice 72 k72) 23 w' w.heap.size (fun _ => True) bB r ∧ Below w.heap.size w w' := by
 have bF := A_ bA; have bK := A_ hc0; clear bA hc0; have HB := A_ (Below.refl w.heap.size w); have H := h; unfold spec_copyStores.f at H; clear h; obtain ⟨aX, aJ⟩ : ∃ y_ : List (List (S72)), y_ = (([] : List (List (S72)))) := ⟨_, rfl⟩; replace H : (spec_copyStores.l0 k l0 aX 0) = some r := yH aJ; have aR := A_ aJ; clear aJ; have H' := A_ H; clear H
 go_enter Try.func31, Try.ntmps31
 go_wp2_with (first | ((with_reducible refine gate_dst (N := 5) rfl ?_); refine Kd.R_lit (Kd.slice 72 k72) _ 23 ?hg (N := 5) ?hd (xs := ([] : List (List (S72)))) (inner := []) (ok := fun _ => True) (okp := fun _ => True) ?hr ?hp (fun _ hk => hk) trivial (Below.refl _ _) (Nat.le_refl _) (by simp) ?_; (case hd => rfl); (case hg => rfl); (case hr => exact Z36); (case hp => exact (Reps.none _ _)); intro bG w2 aY hb hg_ hnew_; clear hg_ hnew_; (first | rw [← aR.out] at aY | (simp only [Int.reduceToNat] at aY; rw [← aR.out] at aY)); have aZ := A_ (Kd.R_lower aY (bz Z1)); replace HB := A_ (bst Z1 hb); clear hb aY))
 go_loopg [3, 4] k (fun kq v3 v4 w' => ∃ (aH : List (List (S72))) (aA : Int), v4 = .int .i64 aA ∧ Aside0 (spec_copyStores.l0 kq l0 aH aA = some r) ∧ Aside0 (kq ≤ k) ∧ Aside0 (Kd.R (Kd.slice 72 k72) 23 w' w.heap.size (fun _ => True) v3 aH) ∧ Aside0 (Below w.heap.size w w'))
 case atStart => exact ⟨(aX), (0), Z17, H', ⟨Nat.le_refl _⟩, ⟨Z9 aZ.out⟩, ⟨Z1⟩⟩
 case round =>
  clear H'; obtain ⟨aH, aA, rfl, HA, bC, aI, HB⟩ := hrel
  cases gk with
  | zero => exact absurd HA.out (by simp [spec_copyStores.l0])
  | succ k1 =>
   have H := HA.out; clear HA; simp only [spec_copyStores.l0] at H
   by_cases c4 : aA < (l0.length : Int)
   ·rw [if_pos c4] at H
    have a2 := dt c4; clear c4
    by_cases c5 : 0 ≤ aA
    ·rw [if_pos c5] at H
     have bH := dt c5; clear c5; replace H := bS H; obtain ⟨aM, bD, H⟩ := H
     try dsimp only at H
     have A6 := A_ bD; clear bD
     by_cases c7 : aH.length < 5864062014805
     ·rw [if_pos c7] at H
      have a3 := A_ c7; clear c7; obtain ⟨a4, aC⟩ : ∃ y_ : List (List (S72)), y_ = (aH ++ [aM]) := ⟨_, rfl⟩
      first | rw [← aC, Option.bind_some] at H | rw [← aC] at H
      have a0 := A_ aC; clear aC; have H' := A_ H; clear H; have aT : 0 ≤ (aA : Int) := odt; have aU : aA < (l0.length : Int) := odt; obtain ⟨bE, aV, aW, a5, aD, aE, aG⟩ := at_L7 bF.out aA aT aU; cases a5; replace aD := ZC HB.out aD; have aN := A_ aG; have aQ := A_ aE; clear aG aE; replace aT := eq_true aT; replace aU := eq_true aU
      go_wp2_with (first | ((with_reducible refine gate_callee (f := 30) rfl ?_); refine gL 17 Try.func30 #[.slice aV (rd_L7 l0 aA).length aW] ?_; (with_reducible refine (spec_copyStore.calls k1 _ _ (rd_L7 l0 aA) aM _ ?s1 aQ.out A6.out).mono ?_); (case s1 => exact Z4 aN.out); rintro e w8 ⟨bI, rfl, a6, hb⟩; refine ⟨_, rfl, ?_⟩; replace aI := A_ (Kd.R_elder' (Z9 aI.out) (Kd.S_base a6) hb); have aK := A_ (Kd.S_lower a6 (bz Z1)); replace HB := A_ (bst Z1 hb); (try clear hb); (try clear a6); obtain ⟨a7, a8, a9⟩ := Kd.S_slice aK.out; subst a9) | ((with_reducible refine gate_builtin (b := .append) (xs := #[.tmp 12, .tmp 18]) rfl ?_); at_builtin; refine Kd.R_append (Kd.slice 72 k72) (w0 := w) w.heap.size rfl (.tmp 12) (.tmp 18) 24 23 (.slice none 0 0) 24 rfl Try.underlying24 info23 rfl (by decide) (by omega) u3 aH aM [.slice a7 aM.length a8] (fun _ => True) (fun k_ => ((fun _ => True)) k_ ∧ some k_ ≠ (u3 : Value).ownBlock) rfl rfl ?aP (fun _ hk => hk) ?aF ?aO ?aB ?aS ?aL ?_; (case aP => exact Kd.M_row (Rm (Kd.R_apart' ((Kd.S_R aK.out)) (Kd.R_typed aI.out) (by decide)) (fun k_ hk => ⟨trivial, hk.2⟩))); (case aB => exact Z1); (case aF => exact (fun _ _ => trivial)); (case aO => exact (by (with_reducible repeat (first | apply Kd.R_alloc | apply Kd.R_drewN | apply Kd.R_drew)); exact Rm aI.out (fun _ hk => trivial))); (case aS => exact (bz Z1)); (case aL => have := a3.out; omega); intro bJ w9 ho hb hg hat; rw [← a0.out] at ho; replace HB := A_ hb; have a1 := A_ ho; clear aI; clear aK; clear ho hb hg hat))
      go_roundg k1
      case measure => have := bC.out; omega
      case rel => exact ⟨(a4), (wrap64 (aA + 1)), Z17, H', ⟨by have := bC.out; omega⟩, ⟨Z9 a1.out⟩, ⟨Z1⟩⟩
     ·rw [if_neg c7] at H
      exact absurd H (by simp)
    ·rw [if_neg c5] at H
     exact absurd H (by simp)
   ·rw [if_neg c4] at H
    have a2 := df c4; clear c4; obtain rfl := Option.some.inj H
    go_wp2
    go_ret
    exact ⟨_, Z7, Z9 aI.out, Z1⟩
def spec_HistRedo.j0 : Nat → Bool → List (S72) → List (List (S72)) → List (List (S72)) → Option ((List (S72)) × (List (List (S72))) × (List (List (S72))) × Bool)
 | 0, _, _, _, _ => none
 | k + 1, aH, aB, aC, aA => if aH = true then (some (([] : List (S72)), ([] : List (List (S72))), ([] : List (List (S72))), false)) else (if 0 ≤ (wrap64 ((aA.length : Int) - 1)) then (if (wrap64 ((aA.length : Int) - 1)) < (aA.length : Int) then ((spec_copyStore.f k (rd_L7 aA (wrap64 ((aA.length : Int) - 1)))).bind fun aE => ((spec_copyStores.f k aC).bind fun aD => ((spec_copyStore.f k aB).bind fun aF => (if aD.length < 5864062014805 then (if (wrap64 ((aA.length : Int) - 1)) ≤ (aA.length : Int) then ((spec_copyStores.f k (aA.take ((wrap64 ((aA.length : Int) - 1)) : Int).toNat)).bind fun aG => (some (aE, (aD ++ [aF]), aG, true))) else (none)) else (none))))) else (none)) else (none))
def spec_HistRedo.f (k : Nat) (aB : List (S72)) (aC : List (List (S72))) (aA : List (List (S72))) : Option ((List (S72)) × (List (List (S72))) × (List (List (S72))) × Bool) := (spec_validHist.f k aB aC aA).bind fun aD => (if aD = true then (spec_HistRedo.j0 k ((aA.length : Int) == 0) aB aC aA) else (spec_HistRedo.j0 k true aB aC aA))
def spec_HistRedo.T4 : Bool × List (List Nat × List Nat) := (true, [([], []), ([0], [0]), ([], []), ([1, 2], [1, 2]), ([3], [3]), ([4], [4]), ([], []), ([6], [6]), ([7, 5], [7]), ([], []), ([9], [9]), ([10, 8], [10]), ([11], [11]), ([8, 12, 11], [8, 12]), ([], []), ([14], [14]), ([], []), ([15, 16], [15, 16]), ([17, 13], [17]), ([5, 13, 18], [5, 13, 18]), ([19, 18, 0, 1, 2, 3, 4, 5, 6, 7, 8, 9, 10, 11, 12, 13, 14, 15, 16, 17, 18, 19], [19]), ([20, 0, 1, 2, 3, 4, 5, 6, 7, 8, 9, 10, 11, 12, 13, 14, 15, 16, 17, 18, 19, 20], [])])
def spec_HistRedo.B4 : List Nat := [0, 1, 0, 7, 15, 31, 0, 64, 255, 0, 512, 2047, 4095, 8191, 0, 16384, 0, 114688, 262143, 524287, 1048575, 2097151]
theorem spec_HistRedo.tab4 : rtab .any (opsOf Try.f14 4) = spec_HistRedo.T4 := by kernel_rfl
theorem spec_HistRedo.bits4 : waitsOk spec_HistRedo.T4.2 spec_HistRedo.B4 = true := by kernel_rfl
theorem spec_HistRedo.calls (k : Nat) (aX : Option Addr) (aY : Nat) (aN : List (S72)) (aZ : Option Addr) (a0 : Nat) (aQ : List (List (S72))) (bE : Option Addr) (aV : Nat) (aG : List (List (S72))) (r1 : List (S72)) (r2 : List (List (S72))) (r3 : List (List (S72))) (r4 : Bool) (w : World) (bU : Kd.C k72 w aX aN.length aN) (bV : aN.length ≤ aY) (bW : Kd.C (Kd.slice 72 k72) w aZ aQ.length aQ) (bX : aQ.length ≤ a0) (bY : Kd.C (Kd.slice 72 k72) w bE aG.length aG) (bZ : aG.length ≤ aV) (h : spec_HistRedo.f k aN aQ aG = some (r1, r2, r3, r4)) :
  Calls Try.prog 14 #[.agg #[.slice aX aN.length aY, .slice aZ aQ.length a0, .slice bE aG.length aV]] w fun e w' => ∃ cV d5 d6 : Value, e = .returned (.tuple #[.agg #[cV, d5, d6], .bool r4]) ∧ Kd.S k72 72 w' w.heap.size (fun _ => True) cV r1 ∧ Kd.R (Kd.slice 72 k72) 23 w' w.heap.size (fun k_ => some k_ ≠ (cV : Value).ownBlock ∧ some k_ ≠ (d6 : Value).ownBlock) d5 r2 ∧ Kd.R (Kd.slice 72 k72) 23 w' w.heap.size (fun k_ => some k_ ≠ (cV : Value).ownBlock ∧ some k_ ≠ (d5 : Value).ownBlock) d6 r3 ∧ Below w.heap.size w w' := by
 have e4 := Try.underlying26; have bF := A_ bU; have bG := A_ bV; clear bU bV; have bH := A_ bW; have bI := A_ bX; clear bW bX; have a4 := A_ bY; have bJ := A_ bZ; clear bY bZ; have HB := A_ (Below.refl w.heap.size w); have H := h; unfold spec_HistRedo.f at H; clear h; have d7 := A_ H; clear H
 go_enter Try.func14, Try.ntmps14
 go_upto_region 1 with (first | ((with_reducible refine gate_dst (N := 1) rfl ?_); (try (refine gate_guard (by rfl) ?_; dsimp only)); refine be (cs := #[.slice aX aN.length aY, .slice aZ aQ.length a0, .slice bE aG.length aV]) (t := 26) ?_; intro aW hg w3 hbox hb; have aA := A_ hbox; have cC := A_ (gl hg (bz Z1)); have aH := cC; replace HB := A_ (bst Z1 hb); clear hb hbox hg) | ((with_reducible refine gate_dst (N := 2) rfl ?_); (try (refine gate_guard (by rfl) ?_; dsimp only)); refine be (cs := #[.slice none 0 0, .slice none 0 0, .slice none 0 0]) (t := 26) ?_; intro aR hg w4 hbox hb; have aD := A_ hbox; have a5 := A_ (gl hg (bz (Z3 aH.out))); have aJ := a5; replace HB := A_ (bst (Z3 aH.out) hb); have aC := A_ ((by rw [hg]; exact nl (blk_lt (Z2 aA.out)) : aW ≠ aR)); have aI := A_ ((by rw [hg]; exact Nat.ne_of_gt (blk_lt (Z2 aA.out)) : aR ≠ aW)); replace aA := A_ (bb (Z2 aA.out) hb); clear hb hbox hg))
 (try simp only [Act.put, List.setIfInBounds_toArray, List.set_cons_zero, List.set_cons_succ])
 go_cut [13] (fun e5 wc => ∃ (kq : Nat) (a6 : Bool), e5 = .bool a6 ∧ Aside0 (spec_HistRedo.j0 kq a6 aN aQ aG = some (r1, r2, r3, r4)) ∧ Aside0 (kq ≤ k) ∧ Aside0 (wc.heap[aW]? = some (.cells #[(.slice aX aN.length aY), (.slice aZ aQ.length a0), (.slice bE aG.length aV)] 26 (0, 0))) ∧ Aside0 (wc.heap[aR]? = some (.cells #[(.slice none 0 0), (.slice none 0 0), (.slice none 0 0)] 26 (0, 0))) ∧ Aside0 (Below w.heap.size w wc))
 case first =>
  have H := d7.out; clear d7; replace H := bS H; obtain ⟨d8, eP, H⟩ := H
  try dsimp only at H
  have A5 := A_ eP; clear eP
  by_cases c6 : d8 = true
  ·subst c6
   rw [if_pos rfl] at H; have H' := A_ H; clear H; have e6 := aC.out; have e7 := aI.out; obtain ⟨d9, eA, eB, eC, eD, eE⟩ := C3 aA.out
   go_wp2_with (first | ((with_reducible refine gate_callee (f := 24) rfl ?_); refine gL 6 Try.func24 #[.agg #[.slice aX aN.length aY, .slice aZ aQ.length a0, .slice bE aG.length aV]] ?_; (with_reducible refine (spec_validHist.calls k _ _ aN _ _ aQ _ _ aG true _ ?s1 bG.out ?s3 bI.out ?s5 bJ.out A5.out).mono ?_); (case s1 => exact Z4 bF.out); (case s3 => exact Z4 bH.out); (case s5 => exact Z4 a4.out); rintro e w9 ⟨rfl, hb⟩; refine ⟨_, rfl, ?_⟩; replace aA := A_ (bb (Z2 aA.out) hb); replace aD := A_ (bb (Z2 aD.out) hb); replace HB := A_ (bst (Z5 aH.out aJ.out) hb); (try clear hb); obtain ⟨cW, cX, cY, cZ, dA, dB⟩ := C3 aA.out))
   go_meet
   case rel => exact ⟨_, (((aG.length : Int) == 0)), Z17, H', ⟨by first | omega | exact Nat.le_refl _⟩, ⟨Z2 aA.out⟩, ⟨Z2 aD.out⟩, ⟨Z5 aH.out aJ.out⟩⟩
  ·replace c6 := Bool.eq_false_iff.mpr c6
   subst c6; rw [if_neg (show ¬ (false = true) by decide)] at H; have H' := A_ H; clear H; have eQ := aC.out; have eR := aI.out; obtain ⟨dC, dD, dE, dF, dG, dH⟩ := C3 aA.out
   go_wp2_with (first | ((with_reducible refine gate_callee (f := 24) rfl ?_); refine gL 6 Try.func24 #[.agg #[.slice aX aN.length aY, .slice aZ aQ.length a0, .slice bE aG.length aV]] ?_; (with_reducible refine (spec_validHist.calls k _ _ aN _ _ aQ _ _ aG false _ ?s1 bG.out ?s3 bI.out ?s5 bJ.out A5.out).mono ?_); (case s1 => exact Z4 bF.out); (case s3 => exact Z4 bH.out); (case s5 => exact Z4 a4.out); rintro e fK ⟨rfl, hb⟩; refine ⟨_, rfl, ?_⟩; replace aA := A_ (bb (Z2 aA.out) hb); replace aD := A_ (bb (Z2 aD.out) hb); replace HB := A_ (bst (Z5 aH.out aJ.out) hb); (try clear hb)))
   go_meet
   case rel => exact ⟨_, (true), Z17, H', ⟨by first | omega | exact Nat.le_refl _⟩, ⟨Z2 aA.out⟩, ⟨Z2 aD.out⟩, ⟨Z5 aH.out aJ.out⟩⟩
 case rest =>
  clear d7; try clear c6
  obtain ⟨kq, a6, rfl, HA, fL, aA, aD, HB⟩ := hcut
  cases kq with
  | zero => exact absurd HA.out (by simp [spec_HistRedo.j0])
  | succ dI =>
   have H := HA.out; clear HA; simp only [spec_HistRedo.j0] at H
   by_cases dJ : a6 = true
   ·subst dJ
    rw [if_pos rfl] at H; simp only [Option.some.injEq, Prod.mk.injEq] at H; obtain ⟨rfl, rfl, rfl, rfl⟩ := H; have eS := aI.out; have eT := aC.out; obtain ⟨dK, dL, dM, dN, dO, dP⟩ := C3 aD.out
    go_wp2
    refine bodyPost_ret (results_ct rfl _ _ aR 26 #[.slice none 0 0, .slice none 0 0, .slice none 0 0] (0, 0) _ rfl (bp0 aD.out) Try.underlying26 rfl (by kernel_rfl)) rfl ?_
    exact ⟨_, _, _, Z7, by first | exact Kd.S_nil _ _ _ _ _ | exact Kd.N_nil _ _ _ _ _ | exact Kd.V_nil _ _ _ _ _ | exact Kd.Q_nil _ _ _ _ _ | exact Kd.R_nil _ _ _ _ _, by first | exact Kd.R_nil _ _ _ _ _ | exact Kd.N_nil _ _ _ _ _ | exact Kd.V_nil _ _ _ _ _ | exact Kd.Q_nil _ _ _ _ _ | exact Kd.S_nil _ _ _ _ _, by first | exact Kd.R_nil _ _ _ _ _ | exact Kd.N_nil _ _ _ _ _ | exact Kd.V_nil _ _ _ _ _ | exact Kd.Q_nil _ _ _ _ _ | exact Kd.S_nil _ _ _ _ _, Z5 aH.out aJ.out⟩
   ·replace dJ := Bool.eq_false_iff.mpr dJ
    subst dJ; rw [if_neg (show ¬ (false = true) by decide)] at H; obtain ⟨aM, a1⟩ : ∃ j_ : Int, (wrap64 ((aG.length : Int) - 1)) = j_ := ⟨_, rfl⟩
    first | rw [a1] at H | simp only [a1] at H
    have eF : (IntKind.i64.wrap ((aG.length : Int) - 1)) = aM := (i64_w _).trans a1
    by_cases dQ : 0 ≤ (aM)
    ·rw [if_pos dQ] at H
     have eU := dt dQ; clear dQ
     by_cases dR : (aM) < (aG.length : Int)
     ·rw [if_pos dR] at H
      have eV := dt dR; clear dR; replace H := bS H; obtain ⟨cD, cE, H⟩ := H
      try dsimp only at H
      have e8 := A_ cE; clear cE; replace H := bS H; obtain ⟨bP, cF, H⟩ := H
      try dsimp only at H
      have e9 := A_ cF; clear cF; replace H := bS H; obtain ⟨bQ, cG, H⟩ := H
      try dsimp only at H
      have fA := A_ cG; clear cG
      by_cases dS : bP.length < 5864062014805
      ·rw [if_pos dS] at H
       have cH := A_ dS; clear dS; obtain ⟨eG, a7⟩ : ∃ y_ : List (List (S72)), y_ = (bP ++ [bQ]) := ⟨_, rfl⟩
       first | rw [← a7, Option.bind_some] at H | rw [← a7] at H
       have cI := A_ a7; clear a7; have eW := eq_true (odt : 0 ≤ (aM))
       by_cases cJ : (aM) ≤ (aG.length : Int)
       ·rw [if_pos cJ] at H
        have eX := eq_true cJ; have eY := dt cJ; clear cJ; obtain ⟨bR, a8⟩ : ∃ y_ : List (List (S72)), y_ = (aG.take ((aM) : Int).toNat) := ⟨_, rfl⟩
        first | rw [← a8, Option.bind_some] at H | rw [← a8] at H
        have b0 := A_ a8; clear a8; replace H := bS H; obtain ⟨cK, cL, H⟩ := H
        try dsimp only at H
        have fB := A_ cL; clear cL; simp only [Option.some.injEq, Prod.mk.injEq] at H; obtain ⟨rfl, rfl, rfl, rfl⟩ := H; have eZ := aC.out; have e0 := aI.out; obtain ⟨dT, dU, dV, dW, dX, dY⟩ := C3 aA.out
        try go_wp2
        replace aA := A_ (blk_drew aA.out); replace aD := A_ (blk_drew aD.out); replace HB := A_ (below_drew1 HB.out); have b4 : 0 ≤ ((aM) : Int) := odt; have b5 : (aM) < (aG.length : Int) := odt; obtain ⟨a2, bK, bL, eH, aU, a9, bA⟩ := at_L7 a4.out (aM) b4 b5; have aE := aU; cases eH; replace aU := ZC HB.out aU; have bB := A_ bA; have bT := A_ a9; clear bA a9; replace b4 := eq_true b4; replace b5 := eq_true b5; have eI : ((aM) : Int) ≤ ((aG.length : Int) : Int) := odt; obtain ⟨fC, b1, _, cM, _⟩ := info_parts info23; have bC : aG.length ≤ aV := bJ.out; have cN : Kd.C (Kd.slice 72 k72) _ (some a2) aG.length aG := a4.out; have b6 := cut_to (P := Try.prog) 24 23 .i64 Try.underlying24 b1 (some a2) aG.length aV (aM) (odt) eI bC; have b7 := Kd.C_take (m := ((aM) : Int).toNat) cN (by omega); have b8 : bR.length = ((aM) : Int).toNat := (by rw [b0.out, List.length_take]; omega); rw [← b0.out] at b7; rw [← b8] at b6; have b2 := A_ b7; have cO := A_ (show bR.length ≤ aV from by omega); clear b7 cN bC b1 cM; have fD := A_ b8; clear b8; replace eI := eq_true eI
        refine start_ (n := 22) (S := fun w' => w'.cell? ⟨aW, 0, none⟩ = some (.slice aX aN.length aY) ∧ w'.cell? ⟨aW, 1, none⟩ = some (.slice aZ aQ.length a0) ∧ w'.cell? ⟨aW, 2, none⟩ = some (.slice (some a2) aG.length aV) ∧ w'.cell? (a2.add ((aM)).toNat) = some (.slice bK (rd_L7 aG (aM)).length bL)) (ds := []) #[F,F,F,F,F,F,F,F,F,F,F,F,F,F,F,F,F,F,F,F,F,F] (by kernel_rfl) rfl rfl ⟨(bc aA.out 0).trans rfl, (bc aA.out 1).trans rfl, (bc aA.out 2).trans rfl, (ZC HB.out aE :)⟩ (fun hHeld => ?_); refine with_tabW spec_HistRedo.tab4 spec_HistRedo.bits4 (fun HT_ HW_ => ?_)
        generalize wc.drew = fM at aA aD HB bB b2 aU hHeld ⊢; refine pU 0 19 #[T,F,F,F,F,F,F,F,F,F,F,F,F,F,F,F,F,F,F,F,F,F] ?_; refine pU 2 21 #[T,F,T,F,F,F,F,F,F,F,F,F,F,F,F,F,F,F,F,F,F,F] ?_; refine pU 6 25 #[T,F,T,F,F,F,T,F,F,F,F,F,F,F,F,F,F,F,F,F,F,F] ?_; refine pU 9 28 #[T,F,T,F,F,F,T,F,F,T,F,F,F,F,F,F,F,F,F,F,F,F] ?_; refine pU 14 33 #[T,F,T,F,F,F,T,F,F,T,F,F,F,F,T,F,F,F,F,F,F,F] ?_; refine pU 16 35 #[T,F,T,F,F,F,T,F,F,T,F,F,F,F,T,F,T,F,F,F,F,F] ?_; refine tU 1 20 #[T,T,T,F,F,F,T,F,F,T,F,F,F,F,T,F,T,F,F,F,F,F] ?_ (y := Z30); refine pU 3 22 #[T,T,T,T,F,F,T,F,F,T,F,F,F,F,T,F,T,F,F,F,F,F] ?_; refine tU 4 23 #[T,T,T,T,T,F,T,F,F,T,F,F,F,F,T,F,T,F,F,F,F,F] ?_ (y := Z30); refine tU 7 26 #[T,T,T,T,T,F,T,T,F,T,F,F,F,F,T,F,T,F,F,F,F,F] ?_ (y := Z30); refine tU 10 29 #[T,T,T,T,T,F,T,T,F,T,T,F,F,F,T,F,T,F,F,F,F,F] ?_ (y := Z30); refine tU 15 34 #[T,T,T,T,T,F,T,T,F,T,T,F,F,F,T,T,T,F,F,F,F,F] ?_ (y := Z30); refine pU 17 36 #[T,T,T,T,T,F,T,T,F,T,T,F,F,F,T,T,T,T,F,F,F,F] ?_
        refine oU 5 (some 24) #[T,T,T,T,T,T,T,T,F,T,T,F,F,F,T,T,T,T,F,F,F,F] (fun K hK => ?_)
        refine goes_ Try.func30 (by kernel_rfl) rfl #[.slice bK (rd_L7 aG (aM)).length bL] (by rfl) rfl rfl (by (try simp only [List.map_toArray, List.map_cons, List.map_nil]); first | done | (simp only [a1]; rfl) | rfl | (simp only [List.length_drop, List.length_take]; rfl)) ?_
        with_reducible refine (spec_copyStore.calls dI _ _ (rd_L7 aG (aM)) cD _ ?s1 ?s2 e8.out).mono ?_
        (case s1 => exact Z4 bB.out)
        (case s2 => exact bT.out)
        rintro e fN ⟨cP, rfl, bD, hb⟩
        refine ⟨_, rfl, ?_⟩
        have aK := A_ (Kd.S_lower bD (bz (Z5 aH.out aJ.out))); replace aA := A_ (bb (Z2 aA.out) hb); replace aD := A_ (bb (Z2 aD.out) hb); replace HB := A_ (bst (Z5 aH.out aJ.out) hb); (try clear hb); (try clear eJ); (try clear hk); (try clear hi); (try clear bD)
        refine hK.out _ _ ⟨(bc aA.out 0).trans rfl, (bc aA.out 1).trans rfl, (bc aA.out 2).trans rfl, (ZC HB.out aE :)⟩ (fun hHeld => ?_)
        clear hK K
        refine norm_ (a' := ?_) ?_ ?_
        rotate_left
        ·show Act.put _ (some 24) _ = _
         simp only [Act.put, List.setIfInBounds_toArray, List.set_cons_zero, List.set_cons_succ, i64_w, i32_w]
         rfl
        refine oU 8 (some 27) #[T,T,T,T,T,T,T,T,T,T,T,F,F,F,T,T,T,T,F,F,F,F] (fun K hK => ?_)
        refine goes_ Try.func31 (by kernel_rfl) rfl #[.slice aZ aQ.length a0] (by rfl) rfl rfl Z16 ?_
        with_reducible refine (spec_copyStores.calls dI _ _ aQ bP _ ?s1 ?s2 e9.out).mono ?_
        (case s1 => exact Z4 bH.out)
        (case s2 => exact bI.out)
        rintro e fO ⟨cQ, rfl, bD, hb⟩
        refine ⟨_, rfl, ?_⟩
        have aT := A_ (Kd.R_lower (Kd.R_new' bD (Kd.S_lt (Z8 aK.out))) (bz (Z5 aH.out aJ.out))); replace aK := A_ (Kd.S_below (Z8 aK.out) hb); replace aA := A_ (bb (Z2 aA.out) hb); replace aD := A_ (bb (Z2 aD.out) hb); replace HB := A_ (bst (Z5 aH.out aJ.out) hb); (try clear hb); (try clear eJ); (try clear hk); (try clear hi); (try clear bD)
        refine hK.out _ _ ⟨(bc aA.out 0).trans rfl, (bc aA.out 1).trans rfl, (bc aA.out 2).trans rfl, (ZC HB.out aE :)⟩ (fun hHeld => ?_)
        clear hK K
        refine norm_ (a' := ?_) ?_ ?_
        rotate_left
        ·show Act.put _ (some 27) _ = _
         simp only [Act.put, List.setIfInBounds_toArray, List.set_cons_zero, List.set_cons_succ, i64_w, i32_w]
         rfl
        refine oU 11 (some 30) #[T,T,T,T,T,T,T,T,T,T,T,T,F,F,T,T,T,T,F,F,F,F] (fun K hK => ?_)
        refine goes_ Try.func30 (by kernel_rfl) rfl #[.slice aX aN.length aY] (by rfl) rfl rfl Z16 ?_
        with_reducible refine (spec_copyStore.calls dI _ _ aN bQ _ ?s1 ?s2 fA.out).mono ?_
        (case s1 => exact Z4 bF.out)
        (case s2 => exact bG.out)
        rintro e fP ⟨fE, rfl, bD, hb⟩
        refine ⟨_, rfl, ?_⟩
        replace aT := A_ (Kd.R_elder' (Z9 aT.out) (Kd.S_base bD) hb); have bM := A_ (Kd.S_lower (Kd.S_new' bD (Kd.S_lt (Z8 aK.out))) (bz (Z5 aH.out aJ.out))); replace aK := A_ (Kd.S_elder' (Z8 aK.out) (Kd.S_base bD) hb); replace aA := A_ (bb (Z2 aA.out) hb); replace aD := A_ (bb (Z2 aD.out) hb); replace HB := A_ (bst (Z5 aH.out aJ.out) hb); (try clear hb); (try clear eJ); (try clear hk); (try clear hi); (try clear bD); obtain ⟨Ao35, co35, cR⟩ := Kd.S_slice bM.out; (first | subst cR | (injection cR with bN b9 bO; have cA := bN.symm; have cB := bO.symm; clear bN b9 bO; subst cA; subst cB))
        refine hK.out _ _ ⟨(bc aA.out 0).trans rfl, (bc aA.out 1).trans rfl, (bc aA.out 2).trans rfl, (ZC HB.out aE :)⟩ (fun hHeld => ?_)
        clear hK K
        refine norm_ (a' := ?_) ?_ ?_
        rotate_left
        ·show Act.put _ (some 30) _ = _
         simp only [Act.put, List.setIfInBounds_toArray, List.set_cons_zero, List.set_cons_succ, i64_w, i32_w]
         rfl
        refine oU 12 (some 31) #[T,T,T,T,T,T,T,T,T,T,T,T,T,F,T,T,T,T,F,F,F,F] (fun K hK => ?_)
        refine value_ (w1 := ?_) (v := ?_) (by rfl) rfl ?_ ?_
        rotate_left 2
        ·go_simp
         constructor
         ·rfl
         ·rfl
        refine hK.out _ _ ⟨(bc (blk_alloc aA.out _) 0).trans rfl, (bc (blk_alloc aA.out _) 1).trans rfl, (bc (blk_alloc aA.out _) 2).trans rfl, (World.cell?_alloc_lt _ _ _ (World.block_lt_of_cell? _ _ ((ZC HB.out aE :)))).trans ((ZC HB.out aE :))⟩ (fun hHeld => ?_)
        clear hK K
        refine norm_ (a' := ?_) ?_ ?_
        rotate_left
        ·show Act.put _ (some 31) _ = _
         simp only [Act.put, List.setIfInBounds_toArray, List.set_cons_zero, List.set_cons_succ, i64_w, i32_w]
         rfl
        refine oU 13 (some 32) #[T,T,T,T,T,T,T,T,T,T,T,T,T,T,T,T,T,T,F,F,F,F] (fun K hK => ?_)
        refine Kd.R_append_step (Kd.slice 72 k72) (w0 := w) w.heap.size (by rfl) (.tmp 27) (.tmp 31) 24 23 (.slice none 0 0) 24 rfl Try.underlying24 info23 rfl (by decide) (by omega) cQ bP bQ [.slice Ao35 bQ.length co35] (fun k_ => some k_ ≠ (cP : Value).ownBlock) (fun k_ => ((fun k_ => some k_ ≠ (cP : Value).ownBlock)) k_ ∧ some k_ ≠ (cQ : Value).ownBlock) rfl rfl ?aP (fun _ hk => hk) ?aF ?aO ?aB ?aS ?aL ?_
        (case aP => exact Kd.M_row (Rm (Kd.R_apart' ((Kd.S_R bM.out)) (Kd.R_typed aT.out) (by decide)) (fun k_ hk => ⟨hk.1.2, hk.2⟩)))
        (case aB => exact (Z5 aH.out aJ.out))
        (case aF => exact (fun k_ hk => Kd.fresh' (Kd.S_lt (Z8 aK.out)) k_ hk))
        (case aO => exact (by (with_reducible repeat (first | apply Kd.R_alloc | apply Kd.R_drewN | apply Kd.R_drew)); exact Rm aT.out (fun _ hk => hk.1.2)))
        (case aS => exact (bz (Z5 aH.out aJ.out)))
        (case aL => have := cH.out; omega)
        intro fF fQ ho hb hg hat
        rw [← cI.out] at ho; replace aA := A_ (blk_grown (Z2 aA.out) hg (Kd.R_ne aT.out aA.out (by decide))); replace aD := A_ (blk_grown (Z2 aD.out) hg (Kd.R_ne aT.out aD.out (by decide))); replace aK := A_ (Kd.S_over' (Z8 aK.out) (Kd.R_typed (Z9 aT.out)) (by decide) hg); replace HB := A_ hb; have a3 := A_ ho; clear aT; clear bM; clear ho hb hg hat
        refine hK.out _ _ ⟨(bc aA.out 0).trans rfl, (bc aA.out 1).trans rfl, (bc aA.out 2).trans rfl, (ZC HB.out aE :)⟩ (fun hHeld => ?_)
        clear hK K
        refine norm_ (a' := ?_) ?_ ?_
        rotate_left
        ·show Act.put _ (some 32) _ = _
         simp only [Act.put, List.setIfInBounds_toArray, List.set_cons_zero, List.set_cons_succ, i64_w, i32_w]
         rfl
        refine oU 18 (some 37) #[T,T,T,T,T,T,T,T,T,T,T,T,T,T,T,T,T,T,T,F,F,F] (fun K hK => ?_)
        refine goes_ Try.func31 (by kernel_rfl) rfl #[.slice (some a2) bR.length aV] (by rfl) rfl rfl Z16 ?_
        with_reducible refine (spec_copyStores.calls dI _ _ bR cK _ ?s1 ?s2 fB.out).mono ?_
        (case s1 => exact Z4 b2.out)
        (case s2 => exact cO.out)
        rintro e eK ⟨fG, rfl, bD, hb⟩
        refine ⟨_, rfl, ?_⟩
        have b3 := A_ (Kd.R_lower (Kd.R_new' (Kd.R_new' bD (Kd.S_lt (Z8 aK.out))) (Kd.R_lt (Z9 a3.out))) (bz (Z5 aH.out aJ.out))); replace aK := A_ (Kd.S_below (Z8 aK.out) hb); replace a3 := A_ (Kd.R_elder' (Z9 a3.out) (Kd.R_base bD) hb); replace aA := A_ (bb (Z2 aA.out) hb); replace aD := A_ (bb (Z2 aD.out) hb); replace HB := A_ (bst (Z5 aH.out aJ.out) hb); (try clear hb); (try clear eJ); (try clear hk); (try clear hi); (try clear bD); obtain ⟨eL, eM, cS⟩ := Kd.R_slice b3.out; (first | subst cS | (injection cS with bN b9 bO; have cA := bN.symm; have cB := bO.symm; clear bN b9 bO; subst cA; subst cB)); obtain ⟨Ao38, co38, cT⟩ := Kd.R_slice a3.out; (first | subst cT | (injection cT with bN b9 bO; have cA := bN.symm; have cB := bO.symm; clear bN b9 bO; subst cA; subst cB)); obtain ⟨eN, eO, cU⟩ := Kd.S_slice aK.out; (first | subst cU | (injection cU with bN b9 bO; have cA := bN.symm; have cB := bO.symm; clear bN b9 bO; subst cA; subst cB))
        refine hK.out _ _ ⟨(bc aA.out 0).trans rfl, (bc aA.out 1).trans rfl, (bc aA.out 2).trans rfl, (ZC HB.out aE :)⟩ (fun hHeld => ?_)
        clear hK K
        refine norm_ (a' := ?_) ?_ ?_
        rotate_left
        ·show Act.put _ (some 37) _ = _
         simp only [Act.put, List.setIfInBounds_toArray, List.set_cons_zero, List.set_cons_succ, i64_w, i32_w]
         rfl
        refine pU 19 38 #[T,T,T,T,T,T,T,T,T,T,T,T,T,T,T,T,T,T,T,T,F,F] ?_
        refine oU 20 none #[T,T,T,T,T,T,T,T,T,T,T,T,T,T,T,T,T,T,T,T,T,F] (fun K hK => ?_)
        have fH : eK.cell? ⟨aR, 0, none⟩ = some (.slice none 0 0) := (bc aD.out 0).trans rfl; have e1 := blk_frozen aD.out 0; have dZ := aC.out; have d0 := aI.out; have fI : eK.cell? ⟨aR, 1, none⟩ = some (.slice none 0 0) := (bc aD.out 1).trans rfl; have e2 := blk_frozen aD.out 1; have d1 := aC.out; have d2 := aI.out; have fJ : eK.cell? ⟨aR, 2, none⟩ = some (.slice none 0 0) := (bc aD.out 2).trans rfl; have e3 := blk_frozen aD.out 2; have d3 := aC.out; have d4 := aI.out
        refine skip_ (w1 := ?_) (by rfl) rfl ?_ ?_
        rotate_left
        ·go_simp
         rfl
        refine hK.out _ _ ⟨(cf aC.out (cf aC.out (cf aC.out hHeld.1))), (cf aC.out (cf aC.out (cf aC.out hHeld.2.1))), (cf aC.out (cf aC.out (cf aC.out hHeld.2.2.1))), (cf (nb aE a5.out) (cf (nb aE a5.out) (cf (nb aE a5.out) hHeld.2.2.2)))⟩ (fun hHeld => ?_)
        clear hK K; refine pU 21 3 #[T,T,T,T,T,T,T,T,T,T,T,T,T,T,T,T,T,T,T,T,T,T] ?_
        refine done_ (done_of HT_.out (by kernel_rfl)) ?_
        try go_wp2
        refine bodyPost_ret (results_ct rfl _ _ aR 26 #[.slice eN cD.length eO, .slice Ao38 eG.length co38, .slice eL cK.length eM] (0, 0) _ rfl (bp0 aD.out) Try.underlying26 rfl (by kernel_rfl)) rfl ?_
        exact ⟨_, _, _, by first | rfl | (simp [errW_none, errW_some] <;> rfl) | (simp only [← a1]; first | rfl | (simp [errW_none, errW_some] <;> rfl)) | (simp [*, errW_none, errW_some] <;> rfl), by (with_reducible repeat (first | apply Kd.S_alloc | apply Kd.S_drewN | apply Kd.S_drew)); exact Kd.S_mono (Sf (Sf (Sf (Kd.S_types aK.out aD.out (by decide))))) (fun _ hk => trivial), by (with_reducible repeat (first | apply Kd.R_alloc | apply Kd.R_drewN | apply Kd.R_drew)); exact Rm (Rf (Rf (Rf (Kd.R_types a3.out aD.out (by decide))))) (fun _ hk => ⟨hk.1.1, hk.1.2⟩), by (with_reducible repeat (first | apply Kd.R_alloc | apply Kd.R_drewN | apply Kd.R_drew)); exact Rm (Rf (Rf (Rf (Kd.R_types b3.out aD.out (by decide))))) (fun _ hk => ⟨hk.1.1.2, hk.1.2⟩), Z5 aH.out aJ.out⟩
       ·rw [if_neg cJ] at H
        exact absurd H (by simp)
      ·rw [if_neg dS] at H
       exact absurd H (by simp)
     ·rw [if_neg dR] at H
      exact absurd H (by simp)
    ·rw [if_neg dQ] at H
     exact absurd H (by simp)
def laws_toSlot.f (aA : Int) (aB : Int) : Option (Int × Int) := some (aA, aB)
theorem laws_toSlot.calls (aN : Int) (aO : Int) (r1 : Int) (r2 : Int) (w : World) (h : laws_toSlot.f aN aO = some (r1, r2)) :
  Calls Try.prog 100 #[.agg #[.int .i64 aN, .int .i64 aO]] w fun e w' => e = .returned (.agg #[.int .i64 r1, .int .i64 r2]) ∧ Below w.heap.size w w' := by
 have a6 := Try.underlying127; have a7 := Try.underlying96; have HB := A_ (Below.refl w.heap.size w); have H := h; unfold laws_toSlot.f at H; clear h; simp only [Option.some.injEq, Prod.mk.injEq] at H; obtain ⟨rfl, rfl⟩ := H
 go_enter Try.func100, Try.ntmps100
 go_wp2_with (first | ((with_reducible refine gate_dst (N := 1) rfl ?_); refine be (cs := #[.int .i64 aN, .int .i64 aO]) (t := 127) ?_; intro aF hg w2 hbox hb; have aA := A_ hbox; have aP := A_ (gl hg (bz Z1)); have aD := aP; replace HB := A_ (bst Z1 hb); clear hb hbox hg) | ((with_reducible refine gate_dst (N := 2) rfl ?_); refine be (cs := #[.int .i64 0, .int .i64 0]) (t := 96) ?_; intro aE hg w3 hbox hb; have aB := A_ hbox; have aQ := A_ (gl hg (bz (Z3 aD.out))); have aM := aQ; replace HB := A_ (bst (Z3 aD.out) hb); have aH := A_ ((by rw [hg]; exact nl (blk_lt (Z2 aA.out)) : aF ≠ aE)); have aI := A_ ((by rw [hg]; exact Nat.ne_of_gt (blk_lt (Z2 aA.out)) : aE ≠ aF)); replace aA := A_ (bb (Z2 aA.out) hb); clear hb hbox hg) | ((with_reducible refine gate_dst (N := 3) rfl ?_); refine be (cs := #[.int .i64 0, .int .i64 0]) (t := 96) ?_; intro aG hg w4 hbox hb; have aR := A_ hbox; have aS := A_ (gl hg (bz (Z5 aD.out aM.out))); have aT := aS; replace HB := A_ (bst (Z5 aD.out aM.out) hb); have aJ := A_ ((by rw [hg]; exact nl (blk_lt (Z2 aA.out)) : aF ≠ aG)); have aK := A_ ((by rw [hg]; exact Nat.ne_of_gt (blk_lt (Z2 aA.out)) : aG ≠ aF)); replace aA := A_ (bb (Z2 aA.out) hb); have aC := A_ ((by rw [hg]; exact nl (blk_lt (Z2 aB.out)) : aE ≠ aG)); have aL := A_ ((by rw [hg]; exact Nat.ne_of_gt (blk_lt (Z2 aB.out)) : aG ≠ aE)); replace aB := A_ (bb (Z2 aB.out) hb); clear hb hbox hg; have a8 := aH.out; have a9 := aI.out; have bA := aJ.out; have bB := aK.out; obtain ⟨aY, aZ, a0, a1⟩ := C2 aA.out; have bC := aL.out; have bD := aC.out; obtain ⟨a2, a3, a4, a5⟩ := C2 aR.out; obtain ⟨aU, aV, aW, aX⟩ := C2 aB.out))
 refine bodyPost_ret (results_cell_row rfl _ _ aE 96 #[.int .i64 aN, .int .i64 aO] (0, 0) _ rfl (bp1 aB.out aC.out) Try.underlying96 rfl (by kernel_rfl)) rfl ?_
 exact ⟨Z7, by repeat (first | (with_reducible first | exact HB.out | apply below_alloc | apply pw_below_drewN | apply below_drew1 | refine below_set ?_ aD.out | refine below_set ?_ aM.out | refine below_set ?_ aT.out) | exact HB.out)⟩
def laws_toSlotS.l0 : Nat → List (S127) → List (S96) → Int → Option ((List (S96)))
 | 0, _, _, _ => none
 | k + 1, x0, x3, x4 => if x4 < (x0.length : Int) then (if 0 ≤ x4 then ((laws_toSlot.f ((rd_T127 x0 x4).f0) ((rd_T127 x0 x4).f1)).bind fun aA => (if x4 < (x3.length : Int) then (laws_toSlotS.l0 k x0 (x3.set (x4 : Int).toNat (⟨aA.1, aA.2⟩ : S96)) (wrap64 (x4 + 1))) else (none))) else (none)) else (some x3)
def laws_toSlotS.f (k : Nat) (l0 : List (S127)) : Option ((List (S96))) := if 0 ≤ (l0.length : Int) then (if ((l0.length : Int) : Int).toNat ≤ 17592186044416 then (laws_toSlotS.l0 k l0 (List.replicate ((l0.length : Int) : Int).toNat z96) 0) else (none)) else (none)
theorem laws_toSlotS.calls (k : Nat) (A0 : Option Addr) (c0 : Nat) (l0 : List (S127)) (r : List (S96)) (w : World) (bR : Kd.C k127 w A0 l0.length l0) (hc0 : l0.length ≤ c0) (h : laws_toSlotS.f k l0 = some r) :
  Calls Try.prog 85 #[.slice A0 l0.length c0] w fun e w' => ∃ bT : Value, e = .returned (bT) ∧ Kd.R k96 96 w' w.heap.size (fun _ => True) bT r ∧ Below w.heap.size w w' := by
 have bU := Try.underlying127; have bY := Try.underlying96; have bZ := A_ bR; have b6 := A_ hc0; clear bR hc0; have HB := A_ (Below.refl w.heap.size w); have H := h; unfold laws_toSlotS.f at H; clear h
 by_cases c2 : 0 ≤ (l0.length : Int)
 ·rw [if_pos c2] at H
  have bB := eq_true c2; have bC := dt c2; clear c2
  by_cases c3 : ((l0.length : Int) : Int).toNat ≤ 17592186044416
  ·rw [if_pos c3] at H
   have bD := eq_true c3; have bE := dt c3; clear c3; obtain ⟨bF, aE⟩ : ∃ y_ : List (S96), y_ = (List.replicate ((l0.length : Int) : Int).toNat z96) := ⟨_, rfl⟩
   first | rw [← aE, Option.bind_some] at H | rw [← aE] at H
   have aO := A_ aE; clear aE; have H' := A_ H; clear H
   go_enter Try.func85, Try.ntmps85
   go_wp2_with (first | ((with_reducible refine gate_dst (N := 7) rfl ?_); refine Kd.R_make k96 _ 96 rfl (N := 7) rfl 67 _ _ rfl (l0.length : Int) rfl rfl Try.underlying67 (.agg #[(.int .i64 0), (.int .i64 0)]) 16 info96 rfl (by decide) (by omega) z96 (ok := fun _ => True) (okp := fun _ => True) (k96_mkM _ _ _ z96 ) (fun _ hk => hk) trivial (odt) (Nat.le_trans (Nat.mul_le_mul_right _ (odt : (l0.length : Int).toNat ≤ 17592186044416)) (by omega)) (Below.refl _ _) (Nat.le_refl _) ?_; intro bG w4 aY hb hg_ hnew_; clear hg_ hnew_; (first | rw [← aO.out] at aY | (simp only [Int.reduceToNat] at aY; rw [← aO.out] at aY)); have aZ := A_ (Kd.R_lower aY (bz Z1)); replace HB := A_ (bst Z1 hb); clear hb aY))
   go_loopg [4] k (fun kq v4 w' => ∃ (aB : List (S96)) (aA : Int), v4 = .int .i64 aA ∧ Aside0 (laws_toSlotS.l0 kq l0 aB aA = some r) ∧ Aside0 (kq ≤ k) ∧ Aside0 (Kd.R k96 96 w' w.heap.size (fun _ => True) bG aB) ∧ Aside0 (Below w.heap.size w w'))
   case atStart => exact ⟨(bF), (0), Z17, H', ⟨Nat.le_refl _⟩, ⟨Z9 aZ.out⟩, ⟨Z1⟩⟩
   case round =>
    clear H'; try clear c2
    try clear bB
    try clear bC
    try clear c3
    try clear bD
    try clear bE
    obtain ⟨aB, aA, rfl, HA, bV, aC, HB⟩ := hrel
    cases gk with
    | zero => exact absurd HA.out (by simp [laws_toSlotS.l0])
    | succ k1 =>
     have H := HA.out; clear HA; simp only [laws_toSlotS.l0] at H
     by_cases c6 : aA < (l0.length : Int)
     ·rw [if_pos c6] at H
      have bH := dt c6; clear c6
      by_cases c7 : 0 ≤ aA
      ·rw [if_pos c7] at H
       have b0 := dt c7; clear c7; replace H := bS H; obtain ⟨⟨aJ, aK⟩, bW, H⟩ := H
       try dsimp only at H
       have A8 := A_ bW; clear bW
       by_cases c9 : aA < (aB.length : Int)
       ·rw [if_pos c9] at H
        have b1 := dt c9; clear c9; obtain ⟨a0, aF⟩ : ∃ y_ : List (S96), y_ = (aB.set (aA : Int).toNat (⟨aJ, aK⟩ : S96)) := ⟨_, rfl⟩
        first | rw [← aF, Option.bind_some] at H | rw [← aF] at H
        have a1 := A_ aF; clear aF; have H' := A_ H; clear H; have aQ : 0 ≤ (aA : Int) := odt; have aR : aA < (l0.length : Int) := odt; obtain ⟨bX, bI, aG, aH⟩ := at_T127 bZ.out aA aQ aR; cases bI; replace aG := ZC HB.out aG; replace aH := ZC HB.out aH; replace aQ := eq_true aQ; replace aR := eq_true aR
        go_wp2_with (first | ((with_reducible refine gate_callee (f := 100) rfl ?_); refine gL 20 Try.func100 #[.agg #[.int .i64 ((rd_T127 l0 aA).f0), .int .i64 ((rd_T127 l0 aA).f1)]] ?_; (with_reducible refine (laws_toSlot.calls ((rd_T127 l0 aA).f0) ((rd_T127 l0 aA).f1) aJ aK _ A8.out).mono ?_); rintro e aS ⟨rfl, hb⟩; refine ⟨_, rfl, ?_⟩; replace aC := A_ (Rbl (Z9 aC.out) hb); replace HB := A_ (bst Z1 hb); (try clear hb); have bJ : 0 ≤ (aA : Int) := odt; have bK : (aA : Int) < ((aB.length : Int) : Int) := odt; obtain ⟨aD, a2, a3, a4, bL, b2, a5⟩ := Kd.R_form aC.out (by omega); (first | cases a3 | (injection a3 with ea_ en_ ec_; (first | subst ea_ | (injection ea_ with ea_; subst ea_)); subst ec_; clear en_)); have a6 := A_ a4; have b3 := A_ a5; clear a4 bL a5; obtain ⟨b4, a7, a8, aL, aM⟩ := Kd.R_elem aC.out z96 (aA : Int) bJ bK; obtain rfl := k96_openM a8; have bM : aS.cell? ⟨aD, (aA : Int).toNat * 2, none⟩ = some (.int .i64 ((rd_T96 aB aA).f0)) := aL 0 _ rfl; have bN : aS.cell? ⟨aD, (aA : Int).toNat * 2 + 1, none⟩ = some (.int .i64 ((rd_T96 aB aA).f1)) := aL 1 _ rfl; have bO : aS.frozen? ⟨aD, (aA : Int).toNat * 2, none⟩ = false := aM 0; have bP : aS.frozen? ⟨aD, (aA : Int).toNat * 2 + 1, none⟩ = false := aM 1; (try clear a8); clear a7 aL aM; replace bJ := eq_true bJ; replace bK := eq_true bK; have a9 := A_ (show Kd.R k96 96 aS w.heap.size (fun _ => True) (.slice (some ⟨aD, 0, none⟩) aB.length a2) aB from (Z9 aC.out)); obtain ⟨b5, aP, bA, aI, aN⟩ := Kd.R_elem a9.out z96 (aA : Int) (odt) (by have h_ : (aA : Int) < ((aB.length : Int) : Int) := odt; first | exact h_ | (have e_ := (Kd.R_reads' aC.out).1; omega) | simpa using h_); obtain rfl := k96_openM bA; have aT := Kd.R_seg a9.out (aA : Int) (odt) (by have h_ : (aA : Int) < ((aB.length : Int) : Int) := odt; first | exact h_ | (have e_ := (Kd.R_reads' aC.out).1; omega) | simpa using h_) (seg := [.int .i64 aJ, .int .i64 aK]) (j := 0) aP aI (show 2 ≤ 2 from by decide) (x' := (⟨aJ, aK⟩ : S96)) (k96_mkM _ _ _ (⟨aJ, aK⟩ : S96) ) (fun _ hk => hk); have aU := aI 0 _ rfl; (try simp only [show (k96).sz = 2 from rfl, Nat.mul_one, Nat.add_zero] at aU); have aV := aN 0; (try simp only [show (k96).sz = 2 from rfl, Nat.mul_one, Nat.add_zero] at aV); have aW := aI 1 _ rfl; (try simp only [show (k96).sz = 2 from rfl, Nat.mul_one, Nat.add_zero] at aW); have aX := aN 1; (try simp only [show (k96).sz = 2 from rfl, Nat.mul_one, Nat.add_zero] at aX); (try clear bA); clear aP aI aN) | ((with_reducible refine gate_store (t := 96) (p := 21) rfl ?_); refine store_event (t := 96) (p := 21) (v := ?vo_w13) (w1 := ((aS.setCell ⟨aD, (aA : Int).toNat * 2, none⟩ (.int .i64 aJ)).setCell ⟨aD, (aA : Int).toNat * 2 + 1, none⟩ (.int .i64 aK))) ?hg ?ho ?hn ?hr ?_; (case ho => rfl); (case hg => rfl); (case hn => rfl); (case hr => exact Z36); intro bQ hw; have hg : aS.grownBy bQ (some aD) := (by rw [hw]; exact aT.2); have hp_ : Kd.R k96 96 bQ w.heap.size (fun _ => True) (.slice (some ⟨aD, 0, none⟩) aB.length a2) a0 := (by rw [hw, a1.out]; exact aT.1); clear aT; replace aC := A_ hp_; replace HB := A_ ((by rw [hw]; exact below_set (below_set (HB.out) a6.out) a6.out : Below w.heap.size w bQ)); clear hg hw hp_))
        go_roundg k1
        case measure => have := bV.out; omega
        case rel => exact ⟨(a0), (wrap64 (aA + 1)), Z17, H', ⟨by have := bV.out; omega⟩, ⟨Z9 aC.out⟩, ⟨Z1⟩⟩
       ·rw [if_neg c9] at H
        exact absurd H (by simp)
      ·rw [if_neg c7] at H
       exact absurd H (by simp)
     ·rw [if_neg c6] at H
      have bH := df c6; clear c6; obtain rfl := Option.some.inj H
      go_wp2
      go_ret
      exact ⟨_, Z7, Z9 aC.out, Z1⟩
  ·exact Z50
 ·rw [if_neg c2] at H
  exact absurd H (by simp)
end Go.Proofs.Ytgbbcebjgpoioaa.PFnExactHistRedo
