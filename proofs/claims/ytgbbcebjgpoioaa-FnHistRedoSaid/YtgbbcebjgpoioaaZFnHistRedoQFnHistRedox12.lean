/- Walks (lines of the print; no condition). -/
import Derived.Test.YtgbbcebjgpoioaaZFnHistRedoQFnHistRedox11
namespace Go.Proofs.Ytgbbcebjgpoioaa.PFnHistRedo
open Go.RowKit Go.Proofs.YtgbbcebjgpoioaaW.PrintWords Go.Proofs.YtgbbcebjgpoioaaW.PrintLast Go.Proofs.YtgbbcebjgpoioaaW.PrintMore
attribute [local go_sem] max2_int min2_int max_two min_two max_three min_three max_four min_four
set_option linter.unusedVariables false
set_option linter.unusedSimpArgs false
set_option maxHeartbeats 8000000
set_option maxRecDepth 100000
def spec_copyStores.l0 : Nat → List (List (S72)) → List (List (S72)) → Int → Option ((List (List (S72))))
 | 0, _, _, _ => none
 | k + 1, x0, x3, x4 => if x4 < (x0.length : Int) then (if 0 ≤ x4 then ((spec_copyStore.f k (rd_L7 x0 x4)).bind fun aA => (if x3.length < 5864062014805 then (spec_copyStores.l0 k x0 (x3 ++ [aA]) (wrap64 (x4 + 1))) else (none))) else (none)) else (some x3)
def spec_copyStores.f (k : Nat) (l0 : List (List (S72))) : Option ((List (List (S72)))) := spec_copyStores.l0 k l0 (([] : List (List (S72)))) 0
theorem spec_copyStores.calls (k : Nat) (A0 : Option Addr) (c0 : Nat) (l0 : List (List (S72))) (r : List (List (S72))) (w : World) (a9 : Kd.C (Kd.slice 72 k72) w A0 l0.length l0) (hc0 : l0.length ≤ c0) (h : spec_copyStores.f k l0 = some r) :
  Calls Try.prog 31 #[.slice A0 l0.length c0] w fun e w' => ∃ bA : Value, e = .returned (bA) ∧ Kd.R (Kd.slice 72 k72) 23 w' w.heap.size (fun _ => True) bA r ∧ Below w.heap.size w w' := by
 have bE := A_ a9; have bJ := A_ hc0; clear a9 hc0; have HB := A_ (Below.refl w.heap.size w); have H := h; unfold spec_copyStores.f at H; clear h; obtain ⟨aX, aJ⟩ : ∃ y_ : List (List (S72)), y_ = (([] : List (List (S72)))) := ⟨_, rfl⟩; replace H : (spec_copyStores.l0 k l0 aX 0) = some r := yH aJ; have aR := A_ aJ; clear aJ; have H' := A_ H; clear H
 go_enter Try.func31, Try.ntmps31
 go_wp2_with (first | ((with_reducible refine gate_dst (N := 5) rfl ?_); refine Kd.R_lit (Kd.slice 72 k72) _ 23 ?hg (N := 5) ?hd (xs := ([] : List (List (S72)))) (inner := []) (ok := fun _ => True) (okp := fun _ => True) ?hr ?hp (fun _ hk => hk) trivial (Below.refl _ _) (Nat.le_refl _) (by simp) ?_; (case hd => rfl); (case hg => rfl); (case hr => exact Z48); (case hp => exact (Reps.none _ _)); intro bF w2 aY hb hg_ hnew_; clear hg_ hnew_; (first | rw [← aR.out] at aY | (simp only [Int.reduceToNat] at aY; rw [← aR.out] at aY)); have aZ := A_ (Kd.R_lower aY (bz Z2)); replace HB := A_ (bst Z2 hb); clear hb aY))
 go_loopg [3, 4] k (fun kq v3 v4 w' => ∃ (aH : List (List (S72))) (aA : Int), v4 = .int .i64 aA ∧ Aside0 (spec_copyStores.l0 kq l0 aH aA = some r) ∧ Aside0 (kq ≤ k) ∧ Aside0 (Kd.R (Kd.slice 72 k72) 23 w' w.heap.size (fun _ => True) v3 aH) ∧ Aside0 (Below w.heap.size w w'))
 case atStart => exact ⟨(aX), (0), Z26, H', ⟨Nat.le_refl _⟩, ⟨Z12 aZ.out⟩, ⟨Z2⟩⟩
 case round =>
  clear H'; obtain ⟨aH, aA, rfl, HA, bB, aI, HB⟩ := hrel
  cases gk with
  | zero => exact absurd HA.out (by simp [spec_copyStores.l0])
  | succ k1 =>
   have H := HA.out; clear HA; simp only [spec_copyStores.l0] at H
   by_cases c4 : aA < (l0.length : Int)
   ·rw [if_pos c4] at H
    have a2 := dt c4; clear c4
    by_cases c5 : 0 ≤ aA
    ·rw [if_pos c5] at H
     have bG := dt c5; clear c5; replace H := bS H; obtain ⟨aM, bC, H⟩ := H
     try dsimp only at H
     have A6 := A_ bC; clear bC
     by_cases c7 : aH.length < 5864062014805
     ·rw [if_pos c7] at H
      have a3 := A_ c7; clear c7; obtain ⟨a4, aC⟩ : ∃ y_ : List (List (S72)), y_ = (aH ++ [aM]) := ⟨_, rfl⟩
      first | rw [← aC, Option.bind_some] at H | rw [← aC] at H
      have a0 := A_ aC; clear aC; have H' := A_ H; clear H; have aT : 0 ≤ (aA : Int) := odt; have aU : aA < (l0.length : Int) := odt; obtain ⟨bD, aV, aW, a5, aD, aE, aG⟩ := at_L7 bE.out aA aT aU; cases a5; replace aD := ZC HB.out aD; have aN := A_ aG; have aQ := A_ aE; clear aG aE; replace aT := eq_true aT; replace aU := eq_true aU
      go_wp2_with (first | ((with_reducible refine gate_callee (f := 30) rfl ?_); refine gL 17 Try.func30 #[.slice aV (rd_L7 l0 aA).length aW] ?_; (with_reducible refine (spec_copyStore.calls k1 _ _ (rd_L7 l0 aA) aM _ ?s1 aQ.out A6.out).mono ?_); (case s1 => exact Z5 aN.out); rintro e w8 ⟨bH, rfl, ho0, hb⟩; refine ⟨_, rfl, ?_⟩; replace aI := A_ (Kd.R_elder' (Z12 aI.out) (Kd.S_base ho0) hb); have aK := A_ (Kd.S_lower ho0 (bz Z2)); replace HB := A_ (bst Z2 hb); (try clear hb); (try clear ho0); obtain ⟨a6, a7, a8⟩ := Kd.S_slice aK.out; subst a8) | ((with_reducible refine gate_builtin (b := .append) (xs := #[.tmp 12, .tmp 18]) rfl ?_); at_builtin; refine Kd.R_append (Kd.slice 72 k72) (w0 := w) w.heap.size rfl (.tmp 12) (.tmp 18) 24 23 (.slice none 0 0) 24 rfl Try.underlying24 info23 rfl (by decide) (by omega) u3 aH aM [.slice a6 aM.length a7] (fun _ => True) (fun k_ => ((fun _ => True)) k_ ∧ some k_ ≠ (u3 : Value).ownBlock) rfl rfl ?aP (fun _ hk => hk) ?aF ?aO ?aB ?aS ?aL ?_; (case aP => exact Kd.M_row (Rm (Kd.R_apart' ((Kd.S_R aK.out)) (Kd.R_typed aI.out) (by decide)) (fun k_ hk => ⟨trivial, hk.2⟩))); (case aB => exact Z2); (case aF => exact (fun _ _ => trivial)); (case aO => exact (Z90 aI.out)); (case aS => exact (bz Z2)); (case aL => have := a3.out; omega); intro bI w9 ho hb hg hat; rw [← a0.out] at ho; replace HB := A_ hb; have a1 := A_ ho; clear aI; clear aK; clear ho hb hg hat))
      go_roundg k1
      case measure => have := bB.out; omega
      case rel => exact ⟨(a4), (wrap64 (aA + 1)), Z26, H', ⟨by have := bB.out; omega⟩, ⟨Z12 a1.out⟩, ⟨Z2⟩⟩
     ·rw [if_neg c7] at H
      exact absurd H (by simp)
    ·rw [if_neg c5] at H
     exact absurd H (by simp)
   ·rw [if_neg c4] at H
    have a2 := df c4; clear c4; obtain rfl := Option.some.inj H
    go_wp2
    go_ret
    exact ⟨_, Z11, Z12 aI.out, Z2⟩
def spec_HistRedo.j0 : Nat → Bool → List (S72) → List (List (S72)) → List (List (S72)) → Option ((List (S72)) × (List (List (S72))) × (List (List (S72))) × Bool)
 | 0, _, _, _, _ => none
 | k + 1, aH, aB, aC, aA => if aH = true then (some (([] : List (S72)), ([] : List (List (S72))), ([] : List (List (S72))), false)) else (if 0 ≤ (wrap64 ((aA.length : Int) - 1)) then (if (wrap64 ((aA.length : Int) - 1)) < (aA.length : Int) then ((spec_copyStore.f k (rd_L7 aA (wrap64 ((aA.length : Int) - 1)))).bind fun aE => ((spec_copyStores.f k aC).bind fun aD => ((spec_copyStore.f k aB).bind fun aF => (if aD.length < 5864062014805 then (if (wrap64 ((aA.length : Int) - 1)) ≤ (aA.length : Int) then ((spec_copyStores.f k (aA.take ((wrap64 ((aA.length : Int) - 1)) : Int).toNat)).bind fun aG => (some (aE, (aD ++ [aF]), aG, true))) else (none)) else (none))))) else (none)) else (none))
def spec_HistRedo.f (k : Nat) (aB : List (S72)) (aC : List (List (S72))) (aA : List (List (S72))) : Option ((List (S72)) × (List (List (S72))) × (List (List (S72))) × Bool) := (spec_validHist.f k aB aC aA).bind fun aD => (if aD = true then (spec_HistRedo.j0 k ((aA.length : Int) == 0) aB aC aA) else (spec_HistRedo.j0 k true aB aC aA))
def spec_HistRedo.T4 : Bool × List (List Nat × List Nat) := (true, [([], []), ([0], [0]), ([], []), ([1, 2], [1, 2]), ([3], [3]), ([4], [4]), ([], []), ([6], [6]), ([7, 5], [7]), ([], []), ([9], [9]), ([10, 8], [10]), ([11], [11]), ([8, 12, 11], [8, 12]), ([], []), ([14], [14]), ([], []), ([15, 16], [15, 16]), ([17, 13], [17]), ([5, 13, 18], [5, 13, 18]), ([19, 18, 0, 1, 2, 3, 4, 5, 6, 7, 8, 9, 10, 11, 12, 13, 14, 15, 16, 17, 18, 19], [19]), ([20, 0, 1, 2, 3, 4, 5, 6, 7, 8, 9, 10, 11, 12, 13, 14, 15, 16, 17, 18, 19, 20], [])])
def spec_HistRedo.B4 : List Nat := [0, 1, 0, 7, 15, 31, 0, 64, 255, 0, 512, 2047, 4095, 8191, 0, 16384, 0, 114688, 262143, 524287, 1048575, 2097151]
theorem spec_HistRedo.tab4 : rtab .any (opsOf Try.f14 4) = spec_HistRedo.T4 := by kernel_rfl
theorem spec_HistRedo.bits4 : waitsOk spec_HistRedo.T4.2 spec_HistRedo.B4 = true := by kernel_rfl
theorem spec_HistRedo.calls (k : Nat) (aX : Option Addr) (aY : Nat) (aN : List (S72)) (aZ : Option Addr) (a0 : Nat) (aQ : List (List (S72))) (bD : Option Addr) (aV : Nat) (aG : List (List (S72))) (r1 : List (S72)) (r2 : List (List (S72))) (r3 : List (List (S72))) (r4 : Bool) (w : World) (bT : Kd.C k72 w aX aN.length aN) (bU : aN.length ≤ aY) (bV : Kd.C (Kd.slice 72 k72) w aZ aQ.length aQ) (bW : aQ.length ≤ a0) (bX : Kd.C (Kd.slice 72 k72) w bD aG.length aG) (bY : aG.length ≤ aV) (h : spec_HistRedo.f k aN aQ aG = some (r1, r2, r3, r4)) :
  Calls Try.prog 14 #[.agg #[.slice aX aN.length aY, .slice aZ aQ.length a0, .slice bD aG.length aV]] w fun e w' => ∃ cU d4 d5 : Value, e = .returned (.tuple #[.agg #[cU, d4, d5], .bool r4]) ∧ Kd.S k72 72 w' w.heap.size (fun _ => True) cU r1 ∧ Kd.R (Kd.slice 72 k72) 23 w' w.heap.size (fun k_ => some k_ ≠ (cU : Value).ownBlock ∧ some k_ ≠ (d5 : Value).ownBlock) d4 r2 ∧ Kd.R (Kd.slice 72 k72) 23 w' w.heap.size (fun k_ => some k_ ≠ (cU : Value).ownBlock ∧ some k_ ≠ (d4 : Value).ownBlock) d5 r3 ∧ Below w.heap.size w w' := by
 have e7 := Try.underlying26; have bE := A_ bT; have bF := A_ bU; clear bT bU; have bG := A_ bV; have bH := A_ bW; clear bV bW; have a4 := A_ bX; have bI := A_ bY; clear bX bY; have HB := A_ (Below.refl w.heap.size w); have H := h; unfold spec_HistRedo.f at H; clear h; have d6 := A_ H; clear H
 go_enter Try.func14, Try.ntmps14
 go_upto_region 1 with (first | ((with_reducible refine gate_dst (N := 1) rfl ?_); (try (refine gate_guard (by rfl) ?_; dsimp only)); refine be (cs := #[.slice aX aN.length aY, .slice aZ aQ.length a0, .slice bD aG.length aV]) (t := 26) ?_; intro aW hg w3 hbox hb; have aA := A_ hbox; have cB := A_ (gl hg (bz Z2)); have aH := cB; replace HB := A_ (bst Z2 hb); clear hb hbox hg) | ((with_reducible refine gate_dst (N := 2) rfl ?_); (try (refine gate_guard (by rfl) ?_; dsimp only)); refine be (cs := #[.slice none 0 0, .slice none 0 0, .slice none 0 0]) (t := 26) ?_; intro aR hg w4 hbox hb; have aD := A_ hbox; have a5 := A_ (gl hg (bz (Z3 aH.out))); have aJ := a5; replace HB := A_ (bst (Z3 aH.out) hb); have aC := A_ ((by rw [hg]; exact nl (blk_lt (Z0 aA.out)) : aW ≠ aR)); have aI := A_ ((by rw [hg]; exact Nat.ne_of_gt (blk_lt (Z0 aA.out)) : aR ≠ aW)); replace aA := A_ (bb (Z0 aA.out) hb); clear hb hbox hg))
 (try simp only [Act.put, List.setIfInBounds_toArray, List.set_cons_zero, List.set_cons_succ])
 go_cut [13] (fun e8 wc => ∃ (kq : Nat) (a6 : Bool), e8 = .bool a6 ∧ Aside0 (spec_HistRedo.j0 kq a6 aN aQ aG = some (r1, r2, r3, r4)) ∧ Aside0 (kq ≤ k) ∧ Aside0 (wc.heap[aW]? = some (.cells #[(.slice aX aN.length aY), (.slice aZ aQ.length a0), (.slice bD aG.length aV)] 26 (0, 0))) ∧ Aside0 (wc.heap[aR]? = some (.cells #[(.slice none 0 0), (.slice none 0 0), (.slice none 0 0)] 26 (0, 0))) ∧ Aside0 (Below w.heap.size w wc))
 case first =>
  have H := d6.out; clear d6; replace H := bS H; obtain ⟨d7, eS, H⟩ := H
  try dsimp only at H
  have A5 := A_ eS; clear eS
  by_cases c6 : d7 = true
  ·subst c6
   rw [if_pos rfl] at H; have H' := A_ H; clear H; have e9 := aC.out; have fA := aI.out; obtain ⟨d8, d9, eA, eB, eC, eD⟩ := C3 aA.out
   go_wp2_with (first | ((with_reducible refine gate_callee (f := 24) rfl ?_); refine gL 6 Try.func24 #[.agg #[.slice aX aN.length aY, .slice aZ aQ.length a0, .slice bD aG.length aV]] ?_; (with_reducible refine (spec_validHist.calls k _ _ aN _ _ aQ _ _ aG true _ ?s1 bF.out ?s3 bH.out ?s5 bI.out A5.out).mono ?_); (case s1 => exact Z5 bE.out); (case s3 => exact Z5 bG.out); (case s5 => exact Z5 a4.out); rintro e w9 ⟨rfl, hb⟩; refine ⟨_, rfl, ?_⟩; replace aA := A_ (bb (Z0 aA.out) hb); replace aD := A_ (bb (Z0 aD.out) hb); replace HB := A_ (bst (Z4 aH.out aJ.out) hb); (try clear hb); obtain ⟨cV, cW, cX, cY, cZ, dA⟩ := C3 aA.out))
   go_meet
   case rel => exact ⟨_, (((aG.length : Int) == 0)), Z26, H', ⟨Z85⟩, ⟨Z0 aA.out⟩, ⟨Z0 aD.out⟩, ⟨Z4 aH.out aJ.out⟩⟩
  ·replace c6 := Bool.eq_false_iff.mpr c6
   subst c6; rw [if_neg (show ¬ (false = true) by decide)] at H; have H' := A_ H; clear H; have eT := aC.out; have eU := aI.out; obtain ⟨dB, dC, dD, dE, dF, dG⟩ := C3 aA.out
   go_wp2_with (first | ((with_reducible refine gate_callee (f := 24) rfl ?_); refine gL 6 Try.func24 #[.agg #[.slice aX aN.length aY, .slice aZ aQ.length a0, .slice bD aG.length aV]] ?_; (with_reducible refine (spec_validHist.calls k _ _ aN _ _ aQ _ _ aG false _ ?s1 bF.out ?s3 bH.out ?s5 bI.out A5.out).mono ?_); (case s1 => exact Z5 bE.out); (case s3 => exact Z5 bG.out); (case s5 => exact Z5 a4.out); rintro e fN ⟨rfl, hb⟩; refine ⟨_, rfl, ?_⟩; replace aA := A_ (bb (Z0 aA.out) hb); replace aD := A_ (bb (Z0 aD.out) hb); replace HB := A_ (bst (Z4 aH.out aJ.out) hb); (try clear hb)))
   go_meet
   case rel => exact ⟨_, (true), Z26, H', ⟨Z85⟩, ⟨Z0 aA.out⟩, ⟨Z0 aD.out⟩, ⟨Z4 aH.out aJ.out⟩⟩
 case rest =>
  clear d6; try clear c6
  obtain ⟨kq, a6, rfl, HA, fO, aA, aD, HB⟩ := hcut
  cases kq with
  | zero => exact absurd HA.out (by simp [spec_HistRedo.j0])
  | succ dH =>
   have H := HA.out; clear HA; simp only [spec_HistRedo.j0] at H
   by_cases dI : a6 = true
   ·subst dI
    rw [if_pos rfl] at H; simp only [Option.some.injEq, Prod.mk.injEq] at H; obtain ⟨rfl, rfl, rfl, rfl⟩ := H; have eV := aI.out; have eW := aC.out; obtain ⟨dJ, dK, dL, dM, dN, dO⟩ := C3 aD.out
    go_wp2
    refine bodyPost_ret (results_ct rfl _ _ aR 26 #[.slice none 0 0, .slice none 0 0, .slice none 0 0] (0, 0) _ rfl (bp0 aD.out) Try.underlying26 rfl (by kernel_rfl)) rfl ?_
    exact ⟨_, _, _, Z11, Z96, Z44, Z44, Z4 aH.out aJ.out⟩
   ·replace dI := Bool.eq_false_iff.mpr dI
    subst dI; rw [if_neg (show ¬ (false = true) by decide)] at H; obtain ⟨aM, a1⟩ : ∃ j_ : Int, (wrap64 ((aG.length : Int) - 1)) = j_ := ⟨_, rfl⟩
    first | rw [a1] at H | simp only [a1] at H
    have eE : (IntKind.i64.wrap ((aG.length : Int) - 1)) = aM := (i64_w _).trans a1
    by_cases dP : 0 ≤ (aM)
    ·rw [if_pos dP] at H
     have eX := dt dP; clear dP
     by_cases dQ : (aM) < (aG.length : Int)
     ·rw [if_pos dQ] at H
      have eY := dt dQ; clear dQ; replace H := bS H; obtain ⟨cC, cD, H⟩ := H
      try dsimp only at H
      have fB := A_ cD; clear cD; replace H := bS H; obtain ⟨bO, cE, H⟩ := H
      try dsimp only at H
      have fC := A_ cE; clear cE; replace H := bS H; obtain ⟨bP, cF, H⟩ := H
      try dsimp only at H
      have fD := A_ cF; clear cF
      by_cases dR : bO.length < 5864062014805
      ·rw [if_pos dR] at H
       have cG := A_ dR; clear dR; obtain ⟨eF, a7⟩ : ∃ y_ : List (List (S72)), y_ = (bO ++ [bP]) := ⟨_, rfl⟩
       first | rw [← a7, Option.bind_some] at H | rw [← a7] at H
       have cH := A_ a7; clear a7; have eZ := eq_true (odt : 0 ≤ (aM))
       by_cases cI : (aM) ≤ (aG.length : Int)
       ·rw [if_pos cI] at H
        have e0 := eq_true cI; have e1 := dt cI; clear cI; obtain ⟨bQ, a8⟩ : ∃ y_ : List (List (S72)), y_ = (aG.take ((aM) : Int).toNat) := ⟨_, rfl⟩
        first | rw [← a8, Option.bind_some] at H | rw [← a8] at H
        have bZ := A_ a8; clear a8; replace H := bS H; obtain ⟨cJ, cK, H⟩ := H
        try dsimp only at H
        have fE := A_ cK; clear cK; simp only [Option.some.injEq, Prod.mk.injEq] at H; obtain ⟨rfl, rfl, rfl, rfl⟩ := H; have e2 := aC.out; have e3 := aI.out; obtain ⟨dS, dT, dU, dV, dW, dX⟩ := C3 aA.out
        try go_wp2
        replace aA := A_ (blk_drew aA.out); replace aD := A_ (blk_drew aD.out); replace HB := A_ (below_drew1 HB.out); have b3 : 0 ≤ ((aM) : Int) := odt; have b4 : (aM) < (aG.length : Int) := odt; obtain ⟨a2, bJ, bK, eG, aU, a9, bA⟩ := at_L7 a4.out (aM) b3 b4; have aE := aU; cases eG; replace aU := ZC HB.out aU; have bB := A_ bA; have bR := A_ a9; clear bA a9; replace b3 := eq_true b3; replace b4 := eq_true b4; have eH : ((aM) : Int) ≤ ((aG.length : Int) : Int) := odt; obtain ⟨fF, b0, _, cL, _⟩ := info_parts info23; have bC : aG.length ≤ aV := bI.out; have cM : Kd.C (Kd.slice 72 k72) _ (some a2) aG.length aG := a4.out; have b5 := cut_to (P := Try.prog) 24 23 .i64 Try.underlying24 b0 (some a2) aG.length aV (aM) (odt) eH bC; have b6 := Kd.C_take (m := ((aM) : Int).toNat) cM (by omega); have b7 : bQ.length = ((aM) : Int).toNat := (by rw [bZ.out, List.length_take]; omega); rw [← bZ.out] at b6; rw [← b7] at b5; have b1 := A_ b6; have cN := A_ (show bQ.length ≤ aV from by omega); clear b6 cM bC b0 cL; have fG := A_ b7; clear b7; replace eH := eq_true eH
        refine start_ (n := 22) (S := fun w' => w'.cell? ⟨aW, 0, none⟩ = some (.slice aX aN.length aY) ∧ w'.cell? ⟨aW, 1, none⟩ = some (.slice aZ aQ.length a0) ∧ w'.cell? ⟨aW, 2, none⟩ = some (.slice (some a2) aG.length aV) ∧ w'.cell? (a2.add ((aM)).toNat) = some (.slice bJ (rd_L7 aG (aM)).length bK)) (ds := []) M50 (by kernel_rfl) rfl rfl ⟨(bc aA.out 0).trans rfl, (bc aA.out 1).trans rfl, (bc aA.out 2).trans rfl, (ZC HB.out aE :)⟩ (fun hHeld => ?_); refine with_tabW spec_HistRedo.tab4 spec_HistRedo.bits4 (fun HT_ HW_ => ?_)
        generalize wc.drew = fP at aA aD HB bB b1 aU hHeld ⊢; refine pU 0 19 M51 ?_; refine pU 2 21 M52 ?_; refine pU 6 25 M53 ?_; refine pU 9 28 #[T,F,T,F,F,F,T,F,F,T,F,F,F,F,F,F,F,F,F,F,F,F] ?_; refine pU 14 33 #[T,F,T,F,F,F,T,F,F,T,F,F,F,F,T,F,F,F,F,F,F,F] ?_; refine pU 16 35 #[T,F,T,F,F,F,T,F,F,T,F,F,F,F,T,F,T,F,F,F,F,F] ?_; refine tU 1 20 #[T,T,T,F,F,F,T,F,F,T,F,F,F,F,T,F,T,F,F,F,F,F] ?_ (y := Z47); refine pU 3 22 #[T,T,T,T,F,F,T,F,F,T,F,F,F,F,T,F,T,F,F,F,F,F] ?_; refine tU 4 23 #[T,T,T,T,T,F,T,F,F,T,F,F,F,F,T,F,T,F,F,F,F,F] ?_ (y := Z47); refine tU 7 26 #[T,T,T,T,T,F,T,T,F,T,F,F,F,F,T,F,T,F,F,F,F,F] ?_ (y := Z47); refine tU 10 29 #[T,T,T,T,T,F,T,T,F,T,T,F,F,F,T,F,T,F,F,F,F,F] ?_ (y := Z47); refine tU 15 34 #[T,T,T,T,T,F,T,T,F,T,T,F,F,F,T,T,T,F,F,F,F,F] ?_ (y := Z47); refine pU 17 36 #[T,T,T,T,T,F,T,T,F,T,T,F,F,F,T,T,T,T,F,F,F,F] ?_
        refine oU 5 (some 24) #[T,T,T,T,T,T,T,T,F,T,T,F,F,F,T,T,T,T,F,F,F,F] (fun K hK => ?_)
        refine goes_ Try.func30 (by kernel_rfl) rfl #[.slice bJ (rd_L7 aG (aM)).length bK] (by rfl) rfl rfl (by (try simp only [List.map_toArray, List.map_cons, List.map_nil]); first | done | (simp only [a1]; rfl) | rfl | (simp only [List.length_drop, List.length_take]; rfl)) ?_
        with_reducible refine (spec_copyStore.calls dH _ _ (rd_L7 aG (aM)) cC _ ?s1 ?s2 fB.out).mono ?_
        (case s1 => exact Z5 bB.out)
        (case s2 => exact bR.out)
        rintro e fQ ⟨cO, rfl, ho0, hb⟩
        refine ⟨_, rfl, ?_⟩
        have aK := A_ (Kd.S_lower ho0 (bz (Z4 aH.out aJ.out))); replace aA := A_ (bb (Z0 aA.out) hb); replace aD := A_ (bb (Z0 aD.out) hb); replace HB := A_ (bst (Z4 aH.out aJ.out) hb); (try clear hb); (try clear eI); (try clear hk); (try clear hi); (try clear ho0)
        refine hK.out _ _ ⟨(bc aA.out 0).trans rfl, (bc aA.out 1).trans rfl, (bc aA.out 2).trans rfl, (ZC HB.out aE :)⟩ (fun hHeld => ?_)
        clear hK K
        refine norm_ (a' := ?_) ?_ ?_
        rotate_left
        ·show Act.put _ (some 24) _ = _
         simp only [Act.put, List.setIfInBounds_toArray, List.set_cons_zero, List.set_cons_succ, i64_w, i32_w]
         rfl
        refine oU 8 (some 27) #[T,T,T,T,T,T,T,T,T,T,T,F,F,F,T,T,T,T,F,F,F,F] (fun K hK => ?_)
        refine goes_ Try.func31 (by kernel_rfl) rfl #[.slice aZ aQ.length a0] (by rfl) rfl rfl Z23 ?_
        with_reducible refine (spec_copyStores.calls dH _ _ aQ bO _ ?s1 ?s2 fC.out).mono ?_
        (case s1 => exact Z5 bG.out)
        (case s2 => exact bH.out)
        rintro e fR ⟨cP, rfl, ho0, hb⟩
        refine ⟨_, rfl, ?_⟩
        have aT := A_ (Kd.R_lower (Kd.R_new' ho0 (Kd.S_lt (Z29 aK.out))) (bz (Z4 aH.out aJ.out))); replace aK := A_ (Kd.S_below (Z29 aK.out) hb); replace aA := A_ (bb (Z0 aA.out) hb); replace aD := A_ (bb (Z0 aD.out) hb); replace HB := A_ (bst (Z4 aH.out aJ.out) hb); (try clear hb); (try clear eI); (try clear hk); (try clear hi); (try clear ho0)
        refine hK.out _ _ ⟨(bc aA.out 0).trans rfl, (bc aA.out 1).trans rfl, (bc aA.out 2).trans rfl, (ZC HB.out aE :)⟩ (fun hHeld => ?_)
        clear hK K
        refine norm_ (a' := ?_) ?_ ?_
        rotate_left
        ·show Act.put _ (some 27) _ = _
         simp only [Act.put, List.setIfInBounds_toArray, List.set_cons_zero, List.set_cons_succ, i64_w, i32_w]
         rfl
        refine oU 11 (some 30) #[T,T,T,T,T,T,T,T,T,T,T,T,F,F,T,T,T,T,F,F,F,F] (fun K hK => ?_)
        refine goes_ Try.func30 (by kernel_rfl) rfl #[.slice aX aN.length aY] (by rfl) rfl rfl Z23 ?_
        with_reducible refine (spec_copyStore.calls dH _ _ aN bP _ ?s1 ?s2 fD.out).mono ?_
        (case s1 => exact Z5 bE.out)
        (case s2 => exact bF.out)
        rintro e fS ⟨fH, rfl, ho0, hb⟩
        refine ⟨_, rfl, ?_⟩
        replace aT := A_ (Kd.R_elder' (Z12 aT.out) (Kd.S_base ho0) hb); have bL := A_ (Kd.S_lower (Kd.S_new' ho0 (Kd.S_lt (Z29 aK.out))) (bz (Z4 aH.out aJ.out))); replace aK := A_ (Kd.S_elder' (Z29 aK.out) (Kd.S_base ho0) hb); replace aA := A_ (bb (Z0 aA.out) hb); replace aD := A_ (bb (Z0 aD.out) hb); replace HB := A_ (bst (Z4 aH.out aJ.out) hb); (try clear hb); (try clear eI); (try clear hk); (try clear hi); (try clear ho0); obtain ⟨eJ, eK, cQ⟩ := Kd.S_slice bL.out; (first | subst cQ | (injection cQ with bM b8 bN; have b9 := bM.symm; have cA := bN.symm; clear bM b8 bN; subst b9; subst cA))
        refine hK.out _ _ ⟨(bc aA.out 0).trans rfl, (bc aA.out 1).trans rfl, (bc aA.out 2).trans rfl, (ZC HB.out aE :)⟩ (fun hHeld => ?_)
        clear hK K
        refine norm_ (a' := ?_) ?_ ?_
        rotate_left
        ·show Act.put _ (some 30) _ = _
         simp only [Act.put, List.setIfInBounds_toArray, List.set_cons_zero, List.set_cons_succ, i64_w, i32_w]
         rfl
        refine oU 12 (some 31) #[T,T,T,T,T,T,T,T,T,T,T,T,T,F,T,T,T,T,F,F,F,F] (fun K hK => ?_)
        refine value_ (w1 := ?_) (v := ?_) (by rfl) rfl ?_ ?_
        rotate_left 2
        ·go_simp
         constructor
         ·rfl
         ·rfl
        refine hK.out _ _ ⟨(bc (ba aA.out _) 0).trans rfl, (bc (ba aA.out _) 1).trans rfl, (bc (ba aA.out _) 2).trans rfl, (World.cell?_alloc_lt _ _ _ (World.block_lt_of_cell? _ _ ((ZC HB.out aE :)))).trans ((ZC HB.out aE :))⟩ (fun hHeld => ?_)
        clear hK K
        refine norm_ (a' := ?_) ?_ ?_
        rotate_left
        ·show Act.put _ (some 31) _ = _
         simp only [Act.put, List.setIfInBounds_toArray, List.set_cons_zero, List.set_cons_succ, i64_w, i32_w]
         rfl
        refine oU 13 (some 32) M54 (fun K hK => ?_)
        refine Kd.R_append_step (Kd.slice 72 k72) (w0 := w) w.heap.size (by rfl) (.tmp 27) (.tmp 31) 24 23 (.slice none 0 0) 24 rfl Try.underlying24 info23 rfl (by decide) (by omega) cP bO bP [.slice eJ bP.length eK] (fun k_ => some k_ ≠ (cO : Value).ownBlock) (fun k_ => ((fun k_ => some k_ ≠ (cO : Value).ownBlock)) k_ ∧ some k_ ≠ (cP : Value).ownBlock) rfl rfl ?aP (fun _ hk => hk) ?aF ?aO ?aB ?aS ?aL ?_
        (case aP => exact Kd.M_row (Rm (Kd.R_apart' ((Kd.S_R bL.out)) (Kd.R_typed aT.out) (by decide)) (fun k_ hk => ⟨hk.1.2, hk.2⟩)))
        (case aB => exact (Z4 aH.out aJ.out))
        (case aF => exact (fun k_ hk => Kd.fresh' (Kd.S_lt (Z29 aK.out)) k_ hk))
        (case aO => exact (by (with_reducible repeat (first | apply Kd.R_alloc | apply Kd.R_drewN | apply Kd.R_drew)); exact Rm aT.out (fun _ hk => hk.1.2)))
        (case aS => exact (bz (Z4 aH.out aJ.out)))
        (case aL => have := cG.out; omega)
        intro fI fT ho hb hg hat
        rw [← cH.out] at ho; replace aA := A_ (blk_grown (Z0 aA.out) hg (Kd.R_ne aT.out aA.out (by decide))); replace aD := A_ (blk_grown (Z0 aD.out) hg (Kd.R_ne aT.out aD.out (by decide))); replace aK := A_ (Kd.S_over' (Z29 aK.out) (Kd.R_typed (Z12 aT.out)) (by decide) hg); replace HB := A_ hb; have a3 := A_ ho; clear aT; clear bL; clear ho hb hg hat
        refine hK.out _ _ ⟨(bc aA.out 0).trans rfl, (bc aA.out 1).trans rfl, (bc aA.out 2).trans rfl, (ZC HB.out aE :)⟩ (fun hHeld => ?_)
        clear hK K
        refine norm_ (a' := ?_) ?_ ?_
        rotate_left; (·exact Z100)
        refine oU 18 (some 37) M55 (fun K hK => ?_)
        refine goes_ Try.func31 (by kernel_rfl) rfl #[.slice (some a2) bQ.length aV] (by rfl) rfl rfl Z23 ?_
        with_reducible refine (spec_copyStores.calls dH _ _ bQ cJ _ ?s1 ?s2 fE.out).mono ?_
        (case s1 => exact Z5 b1.out)
        (case s2 => exact cN.out)
        rintro e eL ⟨fJ, rfl, ho0, hb⟩
        refine ⟨_, rfl, ?_⟩
        have b2 := A_ (Kd.R_lower (Kd.R_new' (Kd.R_new' ho0 (Kd.S_lt (Z29 aK.out))) (Kd.R_lt (Z12 a3.out))) (bz (Z4 aH.out aJ.out))); replace aK := A_ (Kd.S_below (Z29 aK.out) hb); replace a3 := A_ (Kd.R_elder' (Z12 a3.out) (Kd.R_base ho0) hb); replace aA := A_ (bb (Z0 aA.out) hb); replace aD := A_ (bb (Z0 aD.out) hb); replace HB := A_ (bst (Z4 aH.out aJ.out) hb); (try clear hb); (try clear eI); (try clear hk); (try clear hi); (try clear ho0); obtain ⟨eM, eN, cR⟩ := Kd.R_slice b2.out; (first | subst cR | (injection cR with bM b8 bN; have b9 := bM.symm; have cA := bN.symm; clear bM b8 bN; subst b9; subst cA)); obtain ⟨eO, eP, cS⟩ := Kd.R_slice a3.out; (first | subst cS | (injection cS with bM b8 bN; have b9 := bM.symm; have cA := bN.symm; clear bM b8 bN; subst b9; subst cA)); obtain ⟨eQ, eR, cT⟩ := Kd.S_slice aK.out; (first | subst cT | (injection cT with bM b8 bN; have b9 := bM.symm; have cA := bN.symm; clear bM b8 bN; subst b9; subst cA))
        refine hK.out _ _ ⟨(bc aA.out 0).trans rfl, (bc aA.out 1).trans rfl, (bc aA.out 2).trans rfl, (ZC HB.out aE :)⟩ (fun hHeld => ?_)
        clear hK K
        refine norm_ (a' := ?_) ?_ ?_
        rotate_left; (·exact Z99); refine pU 19 38 M56 ?_
        refine oU 20 none M57 (fun K hK => ?_)
        have fK : eL.cell? ⟨aR, 0, none⟩ = some (.slice none 0 0) := (bc aD.out 0).trans rfl; have e4 := blk_frozen aD.out 0; have dY := aC.out; have dZ := aI.out; have fL : eL.cell? ⟨aR, 1, none⟩ = some (.slice none 0 0) := (bc aD.out 1).trans rfl; have e5 := blk_frozen aD.out 1; have d0 := aC.out; have d1 := aI.out; have fM : eL.cell? ⟨aR, 2, none⟩ = some (.slice none 0 0) := (bc aD.out 2).trans rfl; have e6 := blk_frozen aD.out 2; have d2 := aC.out; have d3 := aI.out
        refine skip_ (w1 := ?_) (by rfl) rfl ?_ ?_
        rotate_left
        ·go_simp
         rfl
        refine hK.out _ _ ⟨(cf aC.out (cf aC.out (cf aC.out hHeld.1))), (cf aC.out (cf aC.out (cf aC.out hHeld.2.1))), (cf aC.out (cf aC.out (cf aC.out hHeld.2.2.1))), (cf (nb aE a5.out) (cf (nb aE a5.out) (cf (nb aE a5.out) hHeld.2.2.2)))⟩ (fun hHeld => ?_)
        clear hK K; refine pU 21 3 M58 ?_
        refine done_ (done_of HT_.out (by kernel_rfl)) ?_
        try go_wp2
        refine bodyPost_ret (results_ct rfl _ _ aR 26 #[.slice eQ cC.length eR, .slice eO eF.length eP, .slice eM cJ.length eN] (0, 0) _ rfl (bp0 aD.out) Try.underlying26 rfl (by kernel_rfl)) rfl ?_
        exact ⟨_, _, _, by first | rfl | (simp [errW_none, errW_some] <;> rfl) | (simp only [← a1]; first | rfl | (simp [errW_none, errW_some] <;> rfl)) | (simp [*, errW_none, errW_some] <;> rfl), Z56 aK.out aD.out, by (with_reducible repeat (first | apply Kd.R_alloc | apply Kd.R_drewN | apply Kd.R_drew)); exact Rm (Rf (Rf (Rf (Kd.R_types a3.out aD.out (by decide))))) (fun _ hk => ⟨hk.1.1, hk.1.2⟩), Z66 b2.out aD.out, Z4 aH.out aJ.out⟩
       ·rw [if_neg cI] at H
        exact absurd H (by simp)
      ·rw [if_neg dR] at H
       exact absurd H (by simp)
     ·rw [if_neg dQ] at H
      exact absurd H (by simp)
    ·rw [if_neg dP] at H
     exact absurd H (by simp)
end Go.Proofs.Ytgbbcebjgpoioaa.PFnHistRedo
