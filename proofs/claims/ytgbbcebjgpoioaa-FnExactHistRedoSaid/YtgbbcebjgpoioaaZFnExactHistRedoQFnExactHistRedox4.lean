/- Walks (lines of the print; no condition). -/
import Derived.Test.YtgbbcebjgpoioaaZFnExactHistRedoQFnExactHistRedox2
import Derived.Test.YtgbbcebjgpoioaaZFnExactHistRedoQFnExactHistRedox3
namespace Go.Proofs.Ytgbbcebjgpoioaa.PFnExactHistRedo
open Go.RowKit Go.Proofs.YtgbbcebjgpoioaaW.PrintWords Go.Proofs.YtgbbcebjgpoioaaW.PrintLast Go.Proofs.YtgbbcebjgpoioaaW.PrintMore
attribute [local go_sem] max2_int min2_int max_two min_two max_three min_three max_four min_four
set_option linter.unusedVariables false
set_option linter.unusedSimpArgs false
def impl_StoreOk.l0 : Nat → List (S72) → List (S72) → Int → Int → Option (Bool)
 | 0, _, _, _, _ => none
 | k + 1, x0, x5, x6, x7 => if x7 < x6 then (if 0 ≤ x7 then (if x7 < (x5.length : Int) then ((impl_PlaceOk.f k ((rd_T72 x5 x7).f0)).bind fun aA => (if aA = true then (if (((rd_T72 x5 x7).f1).length : Int) > 3 then (some false) else ((impl_valsOk.f k ((rd_T72 x5 x7).f1)).bind fun aB => (if aB = true then (if x7 > 0 then (if 0 ≤ (wrap64 (x7 - 1)) then (if (wrap64 (x7 - 1)) < (x0.length : Int) then ((impl_placeCmp.f k ((rd_T72 x0 (wrap64 (x7 - 1))).f0) ((rd_T72 x5 x7).f0)).bind fun aC => (if aC ≥ 0 then (some false) else (impl_StoreOk.l0 k x0 x5 x6 (wrap64 (x7 + 1))))) else (none)) else (none)) else (impl_StoreOk.l0 k x0 x5 x6 (wrap64 (x7 + 1)))) else (some false)))) else (some false))) else (none)) else (none)) else (some (decide ((x0.length : Int) ≤ 200)))
def impl_StoreOk.f (k : Nat) (l0 : List (S72)) : Option (Bool) := impl_StoreOk.l0 k l0 l0 (l0.length : Int) 0
def impl_StoreOk.T4 : Bool × List (List Nat × List Nat) := (true, [([], []), ([0], [0]), ([1], [1]), ([2], [2]), ([3, 2], [3]), ([4], [4]), ([5, 4], [4, 5]), ([6, 4], [4, 6]), ([7, 4], [4, 7]), ([4, 8], [4, 8]), ([9, 4], [9]), ([10], [10]), ([11, 10], [10, 11]), ([12, 10, 10], [10, 12]), ([13, 10], [10, 13]), ([10, 14], [10, 14]), ([15, 13], [15]), ([16], [16]), ([17, 16], [16, 17]), ([18, 16, 16], [16, 18]), ([19], [19]), ([19], [19]), ([21, 19], [19, 21]), ([20, 22, 19], [19, 20, 22]), ([23, 19], [19, 23]), ([24, 19], [19, 24]), ([19], [19]), ([26, 19], [19, 26]), ([25, 27, 19, 19], [19, 25, 27]), ([28, 19], [19, 28]), ([19, 29, 16], [16, 19, 29]), ([16, 30], [16, 30])])
def impl_StoreOk.B4 : List Nat := [0, 1, 3, 7, 15, 31, 63, 127, 255, 511, 1023, 2047, 4095, 8191, 16383, 32767, 65535, 131071, 262143, 524287, 1048575, 1048575, 3145727, 8388607, 16777215, 33554431, 1048575, 68157439, 268435455, 536870911, 1073741823, 2147483647]
theorem impl_StoreOk.tab4 : rtab .any (opsOf Try.f34 4) = impl_StoreOk.T4 := by kernel_rfl
theorem impl_StoreOk.bits4 : waitsOk impl_StoreOk.T4.2 impl_StoreOk.B4 = true := by kernel_rfl
set_option maxHeartbeats 8000000 in
set_option maxRecDepth 100000 in
theorem impl_StoreOk.calls (k : Nat) (A0 : Option Addr) (c0 : Nat) (l0 : List (S72)) (r : Bool) (w : World) (cW : Kd.C k72 w A0 l0.length l0) (hc0 : l0.length ≤ c0) (h : impl_StoreOk.f k l0 = some r) :
  Calls Try.prog 34 #[.slice A0 l0.length c0] w fun e w' => e = .returned (.bool r) ∧ Below w.heap.size w w' := by
 have dB := Try.underlying72; have bJ := A_ cW; have dK := A_ hc0; clear cW hc0; have HB := A_ (Below.refl w.heap.size w); have H := h; unfold impl_StoreOk.f at H; clear h; have H' := A_ H; clear H
 go_enter Try.func34, Try.ntmps34
 go_wp2
 go_loopg [7] k (fun kq v7 w' => ∃ (x7_1 : Int), v7 = .int .i64 x7_1 ∧ Aside0 (impl_StoreOk.l0 kq l0 l0 (l0.length : Int) x7_1 = some r) ∧ Aside0 (kq ≤ k) ∧ Aside0 (Below w.heap.size w w'))
 case atStart => exact ⟨(0), Z17, H', ⟨Nat.le_refl _⟩, ⟨Z1⟩⟩
 case round =>
  clear H'; obtain ⟨x7_1, rfl, HA, bT, HB⟩ := hrel
  cases gk with
  | zero => exact absurd HA.out (by simp [impl_StoreOk.l0])
  | succ k1 =>
   have H := HA.out; clear HA; simp only [impl_StoreOk.l0] at H
   by_cases c2 : x7_1 < (l0.length : Int)
   ·rw [if_pos c2] at H
    have cH := dt c2; clear c2
    by_cases c3 : 0 ≤ x7_1
    ·rw [if_pos c3] at H
     have dC := dt c3; clear c3
     by_cases c4 : x7_1 < (l0.length : Int)
     ·rw [if_pos c4] at H
      have dD := dt c4; clear c4; replace H := bS H; obtain ⟨cI, cX, H⟩ := H
      try dsimp only at H
      have A5 := A_ cX; clear cX
      by_cases c6 : cI = true
      ·subst c6
       rw [if_pos rfl] at H
       by_cases c7 : (((rd_T72 l0 x7_1).f1).length : Int) > 3
       ·rw [if_pos c7] at H
        have cJ : decide (3 < (((rd_T72 l0 x7_1).f1).length : Int)) = true := dt c7; have cK : decide (3 < ((rd_T72 l0 x7_1).f1).length) = true := dt (by omega); clear c7; obtain rfl := Option.some.inj H; have aT : 0 ≤ (x7_1 : Int) := odt; have aU : x7_1 < (l0.length : Int) := odt; obtain ⟨aW, A115_0, c115_0, aC, aD, a4, aE, aF, aG, aH, aI, aJ⟩ := at_T72 bJ.out x7_1 aT aU; cases a4; replace aE := ZC HB.out aE; replace aF := ZC HB.out aF; have aL := A_ aH; have aM := A_ aG; clear aH aG; have aN := A_ aJ; have aO := A_ aI; clear aJ aI; replace aT := eq_true aT; replace aU := eq_true aU
        try go_wp2_with (first | ((with_reducible refine gate_dst (N := 4) rfl ?_); (try (refine gate_guard (by rfl) ?_; dsimp only)); refine be (cs := #[.slice none 0 0, .slice none 0 0]) (t := 72) ?_; intro aB hg w8 hbox hb; have aA := A_ hbox; have aX := A_ (gl hg (bz Z1)); have aK := aX; replace HB := A_ (bst Z1 hb); clear hb hbox hg; obtain ⟨cL, cM, cN, cO⟩ := C2 aA.out))
        have a5 : Aside0 (((w8.setCell ⟨aB, 0, none⟩ (.slice A115_0 ((rd_T72 l0 x7_1).f0).length c115_0)).setCell ⟨aB, 1, none⟩ (.slice aC ((rd_T72 l0 x7_1).f1).length aD)).heap[aB]? = some (.cells #[.slice A115_0 ((rd_T72 l0 x7_1).f0).length c115_0, .slice aC ((rd_T72 l0 x7_1).f1).length aD] 72 (0, 0))) := ⟨Z21 aA.out⟩; have a6 : Aside0 (Below w.heap.size w ((w8.setCell ⟨aB, 0, none⟩ (.slice A115_0 ((rd_T72 l0 x7_1).f0).length c115_0)).setCell ⟨aB, 1, none⟩ (.slice aC ((rd_T72 l0 x7_1).f1).length aD))) := ⟨Z3 aK.out⟩; (try clear aA); (try clear HB); generalize ((w8.setCell ⟨aB, 0, none⟩ (.slice A115_0 ((rd_T72 l0 x7_1).f0).length c115_0)).setCell ⟨aB, 1, none⟩ (.slice aC ((rd_T72 l0 x7_1).f1).length aD)) = dE at a5 a6 ⊢; have aA := a5; have HB := a6; clear a5 a6; replace aA := A_ (blk_drew aA.out); replace HB := A_ (below_drew1 HB.out)
        refine start_ (n := 32) (S := fun w' => w'.cell? ⟨aB, 0, none⟩ = some (.slice A115_0 ((rd_T72 l0 x7_1).f0).length c115_0) ∧ w'.cell? ⟨aB, 1, none⟩ = some (.slice aC ((rd_T72 l0 x7_1).f1).length aD)) (ds := []) M25 (by kernel_rfl) rfl rfl ⟨(bc aA.out 0).trans rfl, (bc aA.out 1).trans rfl⟩ (fun hHeld => ?_); refine with_tabW impl_StoreOk.tab4 impl_StoreOk.bits4 (fun HT_ HW_ => ?_)
        generalize dE.drew = dL at aA HB hHeld ⊢; refine pU 0 12 M26 ?_; refine tU 1 13 M27 ?_ (y := Z44)
        refine oU 2 (some 14) M28 (fun K hK => ?_)
        refine goes_ Try.func61 (by kernel_rfl) rfl #[.slice A115_0 ((rd_T72 l0 x7_1).f0).length c115_0] (by rfl) rfl rfl Z16 ?_
        with_reducible refine (impl_PlaceOk.calls k1 _ _ ((rd_T72 l0 x7_1).f0) true _ ?s1 ?s2 A5.out).mono ?_
        (case s1 => exact Z4 aL.out)
        (case s2 => exact aM.out)
        rintro e dM ⟨rfl, hb⟩
        refine ⟨_, rfl, ?_⟩
        replace aA := A_ (bb (Z2 aA.out) hb); replace HB := A_ (bst (Z3 aK.out) hb); (try clear hb); (try clear bF); (try clear hk); (try clear hi)
        refine hK.out _ _ ⟨(bc aA.out 0).trans rfl, (bc aA.out 1).trans rfl⟩ (fun hHeld => ?_)
        clear hK K
        refine norm_ (a' := ?_) ?_ ?_
        rotate_left; (·exact Z42); refine pU 3 15 M29 ?_; refine pU 4 16 M30 ?_; refine pU 5 17 M31 ?_; refine tU 6 18 M32 ?_ (y := Z44); refine pU 7 19 M33 ?_; refine pU 8 20 M34 ?_; refine pU 9 21 M35 ?_; refine pU 10 22 M36 ?_; refine pN 11 23 M37 ?_; refine pN 12 24 M38 ?_; refine pN 13 25 M39 ?_; refine pN 14 26 M40 ?_; refine pU 15 27 M41 ?_; refine pU 16 28 M42 ?_; refine pN 17 29 M43 ?_; refine pN 18 30 M44 ?_; refine pN 19 31 M45 ?_; refine pN 20 32 M46 ?_; refine pN 21 33 M47 ?_; refine pN 22 34 M48 ?_; refine pN 23 35 M49 ?_; refine pN 24 36 M50 ?_; refine pN 25 37 M51 ?_; refine pN 26 38 M52 ?_; refine pN 27 39 M53 ?_; refine pN 28 40 M54 ?_; refine pN 29 41 M55 ?_; refine pN 30 42 M56 ?_; refine pU 31 43 M57 ?_
        refine done_ (done_of HT_.out (by kernel_rfl)) ?_
        try go_wp2
        go_ret
        exact ⟨Z7, Z3 aK.out⟩
       ·rw [if_neg c7] at H
        have cJ : decide (3 < (((rd_T72 l0 x7_1).f1).length : Int)) = false := df c7; have cK : decide (3 < ((rd_T72 l0 x7_1).f1).length) = false := df (by omega); clear c7; replace H := bS H; obtain ⟨cP, bN, H⟩ := H
        try dsimp only at H
        have bO := A_ bN; clear bN
        by_cases bU : cP = true
        ·subst bU
         rw [if_pos rfl] at H
         by_cases bL : x7_1 > 0
         ·rw [if_pos bL] at H
          have bP : decide (0 < x7_1) = true := dt bL; clear bL; obtain ⟨aV, a3⟩ : ∃ j_ : Int, (wrap64 (x7_1 - 1)) = j_ := ⟨_, rfl⟩
          first | rw [a3] at H | simp only [a3] at H
          (try rw [a3] at A5); (try rw [a3] at bO); have cQ : (IntKind.i64.wrap (x7_1 - 1)) = aV := (i64_w _).trans a3
          by_cases bV : 0 ≤ (aV)
          ·rw [if_pos bV] at H
           have cY := dt bV; clear bV
           by_cases bW : (aV) < (l0.length : Int)
           ·rw [if_pos bW] at H
            have cZ := dt bW; clear bW; replace H := bS H; obtain ⟨bG, bQ, H⟩ := H
            try dsimp only at H
            have dA := A_ bQ; clear bQ
            by_cases bM : bG ≥ 0
            ·rw [if_pos bM] at H
             have bR : decide (0 ≤ bG) = true := dt bM; clear bM; obtain rfl := Option.some.inj H; have aT : 0 ≤ (x7_1 : Int) := odt; have aU : x7_1 < (l0.length : Int) := odt; obtain ⟨aW, A115_0, c115_0, aC, aD, a4, aE, aF, aG, aH, aI, aJ⟩ := at_T72 bJ.out x7_1 aT aU; cases a4; replace aE := ZC HB.out aE; replace aF := ZC HB.out aF; have aL := A_ aH; have aM := A_ aG; clear aH aG; have aN := A_ aJ; have aO := A_ aI; clear aJ aI; replace aT := eq_true aT; replace aU := eq_true aU
             try go_wp2_with (first | ((with_reducible refine gate_dst (N := 4) rfl ?_); (try (refine gate_guard (by rfl) ?_; dsimp only)); refine be (cs := #[.slice none 0 0, .slice none 0 0]) (t := 72) ?_; intro aB hg cR hbox hb; have aA := A_ hbox; have aX := A_ (gl hg (bz Z1)); have aK := aX; replace HB := A_ (bst Z1 hb); clear hb hbox hg; obtain ⟨bX, bY, bZ, b0⟩ := C2 aA.out))
             have a5 : Aside0 (((cR.setCell ⟨aB, 0, none⟩ (.slice A115_0 ((rd_T72 l0 x7_1).f0).length c115_0)).setCell ⟨aB, 1, none⟩ (.slice aC ((rd_T72 l0 x7_1).f1).length aD)).heap[aB]? = some (.cells #[.slice A115_0 ((rd_T72 l0 x7_1).f0).length c115_0, .slice aC ((rd_T72 l0 x7_1).f1).length aD] 72 (0, 0))) := ⟨Z21 aA.out⟩; have a6 : Aside0 (Below w.heap.size w ((cR.setCell ⟨aB, 0, none⟩ (.slice A115_0 ((rd_T72 l0 x7_1).f0).length c115_0)).setCell ⟨aB, 1, none⟩ (.slice aC ((rd_T72 l0 x7_1).f1).length aD))) := ⟨Z3 aK.out⟩; (try clear aA); (try clear HB); generalize ((cR.setCell ⟨aB, 0, none⟩ (.slice A115_0 ((rd_T72 l0 x7_1).f0).length c115_0)).setCell ⟨aB, 1, none⟩ (.slice aC ((rd_T72 l0 x7_1).f1).length aD)) = dF at a5 a6 ⊢; have aA := a5; have HB := a6; clear a5 a6; replace aA := A_ (blk_drew aA.out); replace HB := A_ (below_drew1 HB.out); have bB : 0 ≤ ((aV) : Int) := odt; have bC : (aV) < (l0.length : Int) := odt; obtain ⟨bH, a7, a8, bD, bE, bK, aP, aQ, aY, aZ, a0, a1⟩ := at_T72 bJ.out (aV) bB bC; have aR := aQ; have aS := aP; obtain rfl : aW = bH := (by injection bK); replace aP := ZC HB.out aP; replace aQ := ZC HB.out aQ; have a2 := A_ aZ; have a9 := A_ aY; clear aZ aY; have bA := A_ a1; have bI := A_ a0; clear a1 a0
             replace bB := eq_true bB; replace bC := eq_true bC
             refine start_ (n := 32) (S := fun w' => w'.cell? ⟨aB, 0, none⟩ = some (.slice A115_0 ((rd_T72 l0 x7_1).f0).length c115_0) ∧ w'.cell? ⟨aB, 1, none⟩ = some (.slice aC ((rd_T72 l0 x7_1).f1).length aD) ∧ w'.cell? (aW.add (((aV)).toNat * 2)) = some (.slice a7 ((rd_T72 l0 (aV)).f0).length a8) ∧ w'.cell? ⟨(aW.add (((aV)).toNat * 2)).block, (aW.add (((aV)).toNat * 2)).off + 1, none⟩ = some (.slice bD ((rd_T72 l0 (aV)).f1).length bE)) (ds := []) M25 (by kernel_rfl) rfl rfl ⟨(bc aA.out 0).trans rfl, (bc aA.out 1).trans rfl, (ZC HB.out aS :), (ZC HB.out aR :)⟩ (fun hHeld => ?_); refine with_tabW impl_StoreOk.tab4 impl_StoreOk.bits4 (fun HT_ HW_ => ?_)
             generalize dF.drew = dN at aA HB a2 bA aP aQ hHeld ⊢; refine pU 0 12 M26 ?_; refine tU 1 13 M27 ?_ (y := Z30)
             refine oU 2 (some 14) M28 (fun K hK => ?_)
             refine goes_ Try.func61 (by kernel_rfl) rfl #[.slice A115_0 ((rd_T72 l0 x7_1).f0).length c115_0] (by rfl) rfl rfl Z16 ?_
             with_reducible refine (impl_PlaceOk.calls k1 _ _ ((rd_T72 l0 x7_1).f0) true _ ?s1 ?s2 A5.out).mono ?_
             (case s1 => exact Z4 aL.out)
             (case s2 => exact aM.out)
             rintro e dO ⟨rfl, hb⟩
             refine ⟨_, rfl, ?_⟩
             replace aA := A_ (bb (Z2 aA.out) hb); replace HB := A_ (bst (Z3 aK.out) hb); (try clear hb); (try clear bF); (try clear hk); (try clear hi)
             refine hK.out _ _ ⟨(bc aA.out 0).trans rfl, (bc aA.out 1).trans rfl, (ZC HB.out aS :), (ZC HB.out aR :)⟩ (fun hHeld => ?_)
             clear hK K
             refine norm_ (a' := ?_) ?_ ?_
             rotate_left; (·exact Z42); refine pU 3 15 M29 ?_; refine pU 4 16 M30 ?_; refine pU 5 17 M31 ?_; refine tU 6 18 M32 ?_ (y := Z30); refine pU 7 19 M33 ?_; refine pU 8 20 M34 ?_; refine pU 9 21 M35 ?_; refine pU 10 22 M36 ?_; refine pU 11 23 M37 ?_; refine tU 12 24 M38 ?_ (y := Z30)
             refine oU 13 (some 25) M39 (fun K hK => ?_)
             refine goes_ Try.func62 (by kernel_rfl) rfl #[.slice aC ((rd_T72 l0 x7_1).f1).length aD] (by rfl) rfl rfl Z16 ?_
             with_reducible refine (impl_valsOk.calls k1 _ _ ((rd_T72 l0 x7_1).f1) true _ ?s1 ?s2 bO.out).mono ?_
             (case s1 => exact Z4 aN.out)
             (case s2 => exact aO.out)
             rintro e dP ⟨rfl, hb⟩
             refine ⟨_, rfl, ?_⟩
             replace aA := A_ (bb (Z2 aA.out) hb); replace HB := A_ (bst (Z3 aK.out) hb); (try clear hb); (try clear bF); (try clear hk); (try clear hi)
             refine hK.out _ _ ⟨(bc aA.out 0).trans rfl, (bc aA.out 1).trans rfl, (ZC HB.out aS :), (ZC HB.out aR :)⟩ (fun hHeld => ?_)
             clear hK K
             refine norm_ (a' := ?_) ?_ ?_
             rotate_left; (·exact Z31); refine pU 14 26 M40 ?_; refine pU 15 27 M41 ?_; refine pU 16 28 M42 ?_; refine pU 17 29 M43 ?_; refine pU 18 30 M44 ?_; refine pU 19 31 M45 ?_; refine pU 20 32 M46 ?_; refine pU 21 33 M47 ?_; refine pU 22 34 M48 ?_; refine pU 23 35 M49 ?_; refine pU 24 36 M50 ?_; refine pU 26 38 M58 ?_; refine tU 25 37 M52 ?_ (y := Z30); refine tU 27 39 M53 ?_ (y := Z30)
             refine oU 28 (some 40) M54 (fun K hK => ?_)
             refine goes_ Try.func63 (by kernel_rfl) rfl #[.slice a7 ((rd_T72 l0 (aV)).f0).length a8, .slice A115_0 ((rd_T72 l0 x7_1).f0).length c115_0] (by rfl) rfl rfl (by (try simp only [List.map_toArray, List.map_cons, List.map_nil]); first | done | (simp only [a3]; rfl) | rfl | (simp only [List.length_drop, List.length_take]; rfl)) ?_
             with_reducible refine (impl_placeCmp.calls k1 _ _ ((rd_T72 l0 (aV)).f0) _ _ ((rd_T72 l0 x7_1).f0) bG _ ?s1 ?s2 ?s3 ?s4 dA.out).mono ?_
             (case s1 => exact Z4 a2.out)
             (case s2 => exact a9.out)
             (case s3 => exact Z4 aL.out)
             (case s4 => exact aM.out)
             rintro e dQ ⟨rfl, hb⟩
             refine ⟨_, rfl, ?_⟩
             replace aA := A_ (bb (Z2 aA.out) hb); replace HB := A_ (bst (Z3 aK.out) hb); (try clear hb); (try clear bF); (try clear hk); (try clear hi)
             refine hK.out _ _ ⟨(bc aA.out 0).trans rfl, (bc aA.out 1).trans rfl, (ZC HB.out aS :), (ZC HB.out aR :)⟩ (fun hHeld => ?_)
             clear hK K
             refine norm_ (a' := ?_) ?_ ?_
             rotate_left
             ·show Act.put _ (some 40) _ = _
              simp only [Act.put, List.setIfInBounds_toArray, List.set_cons_zero, List.set_cons_succ, i64_w, i32_w]
              rfl
             refine pU 29 41 M55 ?_; refine pU 30 42 M56 ?_; refine pU 31 43 M57 ?_
             refine done_ (done_of HT_.out (by kernel_rfl)) ?_
             try go_wp2
             go_ret
             exact ⟨by first | rfl | (simp [errW_none, errW_some] <;> rfl) | (simp only [← a3]; first | rfl | (simp [errW_none, errW_some] <;> rfl)) | (simp [*, errW_none, errW_some] <;> rfl), Z3 aK.out⟩
            ·rw [if_neg bM] at H
             have bR : decide (0 ≤ bG) = false := df bM; clear bM; have H' := A_ H; clear H; have aT : 0 ≤ (x7_1 : Int) := odt; have aU : x7_1 < (l0.length : Int) := odt; obtain ⟨aW, A115_0, c115_0, aC, aD, a4, aE, aF, aG, aH, aI, aJ⟩ := at_T72 bJ.out x7_1 aT aU; cases a4; replace aE := ZC HB.out aE; replace aF := ZC HB.out aF; have aL := A_ aH; have aM := A_ aG; clear aH aG; have aN := A_ aJ; have aO := A_ aI; clear aJ aI; replace aT := eq_true aT; replace aU := eq_true aU
             try go_wp2_with (first | ((with_reducible refine gate_dst (N := 4) rfl ?_); (try (refine gate_guard (by rfl) ?_; dsimp only)); refine be (cs := #[.slice none 0 0, .slice none 0 0]) (t := 72) ?_; intro aB hg cS hbox hb; have aA := A_ hbox; have aX := A_ (gl hg (bz Z1)); have aK := aX; replace HB := A_ (bst Z1 hb); clear hb hbox hg; obtain ⟨b1, b2, b3, b4⟩ := C2 aA.out))
             have a5 : Aside0 (((cS.setCell ⟨aB, 0, none⟩ (.slice A115_0 ((rd_T72 l0 x7_1).f0).length c115_0)).setCell ⟨aB, 1, none⟩ (.slice aC ((rd_T72 l0 x7_1).f1).length aD)).heap[aB]? = some (.cells #[.slice A115_0 ((rd_T72 l0 x7_1).f0).length c115_0, .slice aC ((rd_T72 l0 x7_1).f1).length aD] 72 (0, 0))) := ⟨Z21 aA.out⟩; have a6 : Aside0 (Below w.heap.size w ((cS.setCell ⟨aB, 0, none⟩ (.slice A115_0 ((rd_T72 l0 x7_1).f0).length c115_0)).setCell ⟨aB, 1, none⟩ (.slice aC ((rd_T72 l0 x7_1).f1).length aD))) := ⟨Z3 aK.out⟩; (try clear aA); (try clear HB); generalize ((cS.setCell ⟨aB, 0, none⟩ (.slice A115_0 ((rd_T72 l0 x7_1).f0).length c115_0)).setCell ⟨aB, 1, none⟩ (.slice aC ((rd_T72 l0 x7_1).f1).length aD)) = dG at a5 a6 ⊢; have aA := a5; have HB := a6; clear a5 a6; replace aA := A_ (blk_drew aA.out); replace HB := A_ (below_drew1 HB.out); have bB : 0 ≤ ((aV) : Int) := odt; have bC : (aV) < (l0.length : Int) := odt; obtain ⟨bH, a7, a8, bD, bE, bK, aP, aQ, aY, aZ, a0, a1⟩ := at_T72 bJ.out (aV) bB bC; have aR := aQ; have aS := aP; obtain rfl : aW = bH := (by injection bK); replace aP := ZC HB.out aP; replace aQ := ZC HB.out aQ; have a2 := A_ aZ; have a9 := A_ aY; clear aZ aY; have bA := A_ a1; have bI := A_ a0; clear a1 a0
             replace bB := eq_true bB; replace bC := eq_true bC
             refine start_ (n := 32) (S := fun w' => w'.cell? ⟨aB, 0, none⟩ = some (.slice A115_0 ((rd_T72 l0 x7_1).f0).length c115_0) ∧ w'.cell? ⟨aB, 1, none⟩ = some (.slice aC ((rd_T72 l0 x7_1).f1).length aD) ∧ w'.cell? (aW.add (((aV)).toNat * 2)) = some (.slice a7 ((rd_T72 l0 (aV)).f0).length a8) ∧ w'.cell? ⟨(aW.add (((aV)).toNat * 2)).block, (aW.add (((aV)).toNat * 2)).off + 1, none⟩ = some (.slice bD ((rd_T72 l0 (aV)).f1).length bE)) (ds := []) M25 (by kernel_rfl) rfl rfl ⟨(bc aA.out 0).trans rfl, (bc aA.out 1).trans rfl, (ZC HB.out aS :), (ZC HB.out aR :)⟩ (fun hHeld => ?_); refine with_tabW impl_StoreOk.tab4 impl_StoreOk.bits4 (fun HT_ HW_ => ?_)
             generalize dG.drew = dR at aA HB a2 bA aP aQ hHeld ⊢; refine pU 0 12 M26 ?_; refine tU 1 13 M27 ?_ (y := Z30)
             refine oU 2 (some 14) M28 (fun K hK => ?_)
             refine goes_ Try.func61 (by kernel_rfl) rfl #[.slice A115_0 ((rd_T72 l0 x7_1).f0).length c115_0] (by rfl) rfl rfl Z16 ?_
             with_reducible refine (impl_PlaceOk.calls k1 _ _ ((rd_T72 l0 x7_1).f0) true _ ?s1 ?s2 A5.out).mono ?_
             (case s1 => exact Z4 aL.out)
             (case s2 => exact aM.out)
             rintro e dS ⟨rfl, hb⟩
             refine ⟨_, rfl, ?_⟩
             replace aA := A_ (bb (Z2 aA.out) hb); replace HB := A_ (bst (Z3 aK.out) hb); (try clear hb); (try clear bF); (try clear hk); (try clear hi)
             refine hK.out _ _ ⟨(bc aA.out 0).trans rfl, (bc aA.out 1).trans rfl, (ZC HB.out aS :), (ZC HB.out aR :)⟩ (fun hHeld => ?_)
             clear hK K
             refine norm_ (a' := ?_) ?_ ?_
             rotate_left; (·exact Z42); refine pU 3 15 M29 ?_; refine pU 4 16 M30 ?_; refine pU 5 17 M31 ?_; refine tU 6 18 M32 ?_ (y := Z30); refine pU 7 19 M33 ?_; refine pU 8 20 M34 ?_; refine pU 9 21 M35 ?_; refine pU 10 22 M36 ?_; refine pU 11 23 M37 ?_; refine tU 12 24 M38 ?_ (y := Z30)
             refine oU 13 (some 25) M39 (fun K hK => ?_)
             refine goes_ Try.func62 (by kernel_rfl) rfl #[.slice aC ((rd_T72 l0 x7_1).f1).length aD] (by rfl) rfl rfl Z16 ?_
             with_reducible refine (impl_valsOk.calls k1 _ _ ((rd_T72 l0 x7_1).f1) true _ ?s1 ?s2 bO.out).mono ?_
             (case s1 => exact Z4 aN.out)
             (case s2 => exact aO.out)
             rintro e dT ⟨rfl, hb⟩
             refine ⟨_, rfl, ?_⟩
             replace aA := A_ (bb (Z2 aA.out) hb); replace HB := A_ (bst (Z3 aK.out) hb); (try clear hb); (try clear bF); (try clear hk); (try clear hi)
             refine hK.out _ _ ⟨(bc aA.out 0).trans rfl, (bc aA.out 1).trans rfl, (ZC HB.out aS :), (ZC HB.out aR :)⟩ (fun hHeld => ?_)
             clear hK K
             refine norm_ (a' := ?_) ?_ ?_
             rotate_left; (·exact Z31); refine pU 14 26 M40 ?_; refine pU 15 27 M41 ?_; refine pU 16 28 M42 ?_; refine pU 17 29 M43 ?_; refine pU 18 30 M44 ?_; refine pU 19 31 M45 ?_; refine pU 20 32 M46 ?_; refine pU 21 33 M47 ?_; refine pU 22 34 M48 ?_; refine pU 23 35 M49 ?_; refine pU 24 36 M50 ?_; refine pU 26 38 M58 ?_; refine tU 25 37 M52 ?_ (y := Z30); refine tU 27 39 M53 ?_ (y := Z30)
             refine oU 28 (some 40) M54 (fun K hK => ?_)
             refine goes_ Try.func63 (by kernel_rfl) rfl #[.slice a7 ((rd_T72 l0 (aV)).f0).length a8, .slice A115_0 ((rd_T72 l0 x7_1).f0).length c115_0] (by rfl) rfl rfl (by (try simp only [List.map_toArray, List.map_cons, List.map_nil]); first | done | (simp only [a3]; rfl) | rfl | (simp only [List.length_drop, List.length_take]; rfl)) ?_
             with_reducible refine (impl_placeCmp.calls k1 _ _ ((rd_T72 l0 (aV)).f0) _ _ ((rd_T72 l0 x7_1).f0) bG _ ?s1 ?s2 ?s3 ?s4 dA.out).mono ?_
             (case s1 => exact Z4 a2.out)
             (case s2 => exact a9.out)
             (case s3 => exact Z4 aL.out)
             (case s4 => exact aM.out)
             rintro e dU ⟨rfl, hb⟩
             refine ⟨_, rfl, ?_⟩
             replace aA := A_ (bb (Z2 aA.out) hb); replace HB := A_ (bst (Z3 aK.out) hb); (try clear hb); (try clear bF); (try clear hk); (try clear hi)
             refine hK.out _ _ ⟨(bc aA.out 0).trans rfl, (bc aA.out 1).trans rfl, (ZC HB.out aS :), (ZC HB.out aR :)⟩ (fun hHeld => ?_)
             clear hK K
             refine norm_ (a' := ?_) ?_ ?_
             rotate_left
             ·show Act.put _ (some 40) _ = _
              simp only [Act.put, List.setIfInBounds_toArray, List.set_cons_zero, List.set_cons_succ, i64_w, i32_w]
              rfl
             refine pU 29 41 M55 ?_; refine pU 30 42 M56 ?_; refine pU 31 43 M57 ?_
             refine done_ (done_of HT_.out (by kernel_rfl)) ?_
             try go_wp2
             go_roundg k1
             case measure => have := bT.out; omega
             case rel => exact ⟨(wrap64 (x7_1 + 1)), Z17, H', ⟨by have := bT.out; omega⟩, ⟨Z3 aK.out⟩⟩
           ·rw [if_neg bW] at H
            exact absurd H (by simp)
          ·rw [if_neg bV] at H
           exact absurd H (by simp)
         ·rw [if_neg bL] at H
          have bP : decide (0 < x7_1) = false := df bL; clear bL; have H' := A_ H; clear H; have aT : 0 ≤ (x7_1 : Int) := odt; have aU : x7_1 < (l0.length : Int) := odt; obtain ⟨aW, A115_0, c115_0, aC, aD, a4, aE, aF, aG, aH, aI, aJ⟩ := at_T72 bJ.out x7_1 aT aU; cases a4; replace aE := ZC HB.out aE; replace aF := ZC HB.out aF; have aL := A_ aH; have aM := A_ aG; clear aH aG; have aN := A_ aJ; have aO := A_ aI; clear aJ aI; replace aT := eq_true aT; replace aU := eq_true aU
          try go_wp2_with (first | ((with_reducible refine gate_dst (N := 4) rfl ?_); (try (refine gate_guard (by rfl) ?_; dsimp only)); refine be (cs := #[.slice none 0 0, .slice none 0 0]) (t := 72) ?_; intro aB hg cT hbox hb; have aA := A_ hbox; have aX := A_ (gl hg (bz Z1)); have aK := aX; replace HB := A_ (bst Z1 hb); clear hb hbox hg; obtain ⟨b5, b6, b7, b8⟩ := C2 aA.out))
          have a5 : Aside0 (((cT.setCell ⟨aB, 0, none⟩ (.slice A115_0 ((rd_T72 l0 x7_1).f0).length c115_0)).setCell ⟨aB, 1, none⟩ (.slice aC ((rd_T72 l0 x7_1).f1).length aD)).heap[aB]? = some (.cells #[.slice A115_0 ((rd_T72 l0 x7_1).f0).length c115_0, .slice aC ((rd_T72 l0 x7_1).f1).length aD] 72 (0, 0))) := ⟨Z21 aA.out⟩; have a6 : Aside0 (Below w.heap.size w ((cT.setCell ⟨aB, 0, none⟩ (.slice A115_0 ((rd_T72 l0 x7_1).f0).length c115_0)).setCell ⟨aB, 1, none⟩ (.slice aC ((rd_T72 l0 x7_1).f1).length aD))) := ⟨Z3 aK.out⟩; (try clear aA); (try clear HB); generalize ((cT.setCell ⟨aB, 0, none⟩ (.slice A115_0 ((rd_T72 l0 x7_1).f0).length c115_0)).setCell ⟨aB, 1, none⟩ (.slice aC ((rd_T72 l0 x7_1).f1).length aD)) = dH at a5 a6 ⊢; have aA := a5; have HB := a6; clear a5 a6; replace aA := A_ (blk_drew aA.out); replace HB := A_ (below_drew1 HB.out)
          refine start_ (n := 32) (S := fun w' => w'.cell? ⟨aB, 0, none⟩ = some (.slice A115_0 ((rd_T72 l0 x7_1).f0).length c115_0) ∧ w'.cell? ⟨aB, 1, none⟩ = some (.slice aC ((rd_T72 l0 x7_1).f1).length aD)) (ds := []) M25 (by kernel_rfl) rfl rfl ⟨(bc aA.out 0).trans rfl, (bc aA.out 1).trans rfl⟩ (fun hHeld => ?_); refine with_tabW impl_StoreOk.tab4 impl_StoreOk.bits4 (fun HT_ HW_ => ?_)
          generalize dH.drew = dV at aA HB hHeld ⊢; refine pU 0 12 M26 ?_; refine tU 1 13 M27 ?_ (y := Z44)
          refine oU 2 (some 14) M28 (fun K hK => ?_)
          refine goes_ Try.func61 (by kernel_rfl) rfl #[.slice A115_0 ((rd_T72 l0 x7_1).f0).length c115_0] (by rfl) rfl rfl Z16 ?_
          with_reducible refine (impl_PlaceOk.calls k1 _ _ ((rd_T72 l0 x7_1).f0) true _ ?s1 ?s2 A5.out).mono ?_
          (case s1 => exact Z4 aL.out)
          (case s2 => exact aM.out)
          rintro e dW ⟨rfl, hb⟩
          refine ⟨_, rfl, ?_⟩
          replace aA := A_ (bb (Z2 aA.out) hb); replace HB := A_ (bst (Z3 aK.out) hb); (try clear hb); (try clear bF); (try clear hk); (try clear hi)
          refine hK.out _ _ ⟨(bc aA.out 0).trans rfl, (bc aA.out 1).trans rfl⟩ (fun hHeld => ?_)
          clear hK K
          refine norm_ (a' := ?_) ?_ ?_
          rotate_left; (·exact Z42); refine pU 3 15 M29 ?_; refine pU 4 16 M30 ?_; refine pU 5 17 M31 ?_; refine tU 6 18 M32 ?_ (y := Z44); refine pU 7 19 M33 ?_; refine pU 8 20 M34 ?_; refine pU 9 21 M35 ?_; refine pU 10 22 M36 ?_; refine pU 11 23 M37 ?_; refine tU 12 24 M38 ?_ (y := Z44)
          refine oU 13 (some 25) M39 (fun K hK => ?_)
          refine goes_ Try.func62 (by kernel_rfl) rfl #[.slice aC ((rd_T72 l0 x7_1).f1).length aD] (by rfl) rfl rfl Z16 ?_
          with_reducible refine (impl_valsOk.calls k1 _ _ ((rd_T72 l0 x7_1).f1) true _ ?s1 ?s2 bO.out).mono ?_
          (case s1 => exact Z4 aN.out)
          (case s2 => exact aO.out)
          rintro e dX ⟨rfl, hb⟩
          refine ⟨_, rfl, ?_⟩
          replace aA := A_ (bb (Z2 aA.out) hb); replace HB := A_ (bst (Z3 aK.out) hb); (try clear hb); (try clear bF); (try clear hk); (try clear hi)
          refine hK.out _ _ ⟨(bc aA.out 0).trans rfl, (bc aA.out 1).trans rfl⟩ (fun hHeld => ?_)
          clear hK K
          refine norm_ (a' := ?_) ?_ ?_
          rotate_left; (·exact Z31); refine pU 14 26 M40 ?_; refine pU 15 27 M41 ?_; refine pU 16 28 M42 ?_; refine pU 17 29 M43 ?_; refine pU 18 30 M44 ?_; refine pU 19 31 M45 ?_; refine pN 20 32 M46 ?_; refine pN 21 33 M47 ?_; refine pN 22 34 M48 ?_; refine pN 23 35 M49 ?_; refine pN 24 36 M50 ?_; refine pN 25 37 M51 ?_; refine pN 26 38 M52 ?_; refine pN 27 39 M53 ?_; refine pN 28 40 M54 ?_; refine pN 29 41 M55 ?_; refine pU 30 42 M56 ?_; refine pU 31 43 M57 ?_
          refine done_ (done_of HT_.out (by kernel_rfl)) ?_
          try go_wp2
          go_roundg k1
          case measure => have := bT.out; omega
          case rel => exact ⟨(wrap64 (x7_1 + 1)), Z17, H', ⟨by have := bT.out; omega⟩, ⟨Z3 aK.out⟩⟩
        ·replace bU := Bool.eq_false_iff.mpr bU
         subst bU; rw [if_neg (show ¬ (false = true) by decide)] at H; obtain rfl := Option.some.inj H; have aT : 0 ≤ (x7_1 : Int) := odt; have aU : x7_1 < (l0.length : Int) := odt; obtain ⟨aW, A115_0, c115_0, aC, aD, a4, aE, aF, aG, aH, aI, aJ⟩ := at_T72 bJ.out x7_1 aT aU; cases a4; replace aE := ZC HB.out aE; replace aF := ZC HB.out aF; have aL := A_ aH; have aM := A_ aG; clear aH aG; have aN := A_ aJ; have aO := A_ aI; clear aJ aI; replace aT := eq_true aT; replace aU := eq_true aU
         try go_wp2_with (first | ((with_reducible refine gate_dst (N := 4) rfl ?_); (try (refine gate_guard (by rfl) ?_; dsimp only)); refine be (cs := #[.slice none 0 0, .slice none 0 0]) (t := 72) ?_; intro aB hg cU hbox hb; have aA := A_ hbox; have aX := A_ (gl hg (bz Z1)); have aK := aX; replace HB := A_ (bst Z1 hb); clear hb hbox hg; obtain ⟨b9, cA, cB, cC⟩ := C2 aA.out))
         have a5 : Aside0 (((cU.setCell ⟨aB, 0, none⟩ (.slice A115_0 ((rd_T72 l0 x7_1).f0).length c115_0)).setCell ⟨aB, 1, none⟩ (.slice aC ((rd_T72 l0 x7_1).f1).length aD)).heap[aB]? = some (.cells #[.slice A115_0 ((rd_T72 l0 x7_1).f0).length c115_0, .slice aC ((rd_T72 l0 x7_1).f1).length aD] 72 (0, 0))) := ⟨Z21 aA.out⟩; have a6 : Aside0 (Below w.heap.size w ((cU.setCell ⟨aB, 0, none⟩ (.slice A115_0 ((rd_T72 l0 x7_1).f0).length c115_0)).setCell ⟨aB, 1, none⟩ (.slice aC ((rd_T72 l0 x7_1).f1).length aD))) := ⟨Z3 aK.out⟩; (try clear aA); (try clear HB); generalize ((cU.setCell ⟨aB, 0, none⟩ (.slice A115_0 ((rd_T72 l0 x7_1).f0).length c115_0)).setCell ⟨aB, 1, none⟩ (.slice aC ((rd_T72 l0 x7_1).f1).length aD)) = dI at a5 a6 ⊢; have aA := a5; have HB := a6; clear a5 a6; replace aA := A_ (blk_drew aA.out); replace HB := A_ (below_drew1 HB.out)
         refine start_ (n := 32) (S := fun w' => w'.cell? ⟨aB, 0, none⟩ = some (.slice A115_0 ((rd_T72 l0 x7_1).f0).length c115_0) ∧ w'.cell? ⟨aB, 1, none⟩ = some (.slice aC ((rd_T72 l0 x7_1).f1).length aD)) (ds := []) M25 (by kernel_rfl) rfl rfl ⟨(bc aA.out 0).trans rfl, (bc aA.out 1).trans rfl⟩ (fun hHeld => ?_); refine with_tabW impl_StoreOk.tab4 impl_StoreOk.bits4 (fun HT_ HW_ => ?_)
         generalize dI.drew = dY at aA HB hHeld ⊢; refine pU 0 12 M26 ?_; refine tU 1 13 M27 ?_ (y := Z44)
         refine oU 2 (some 14) M28 (fun K hK => ?_)
         refine goes_ Try.func61 (by kernel_rfl) rfl #[.slice A115_0 ((rd_T72 l0 x7_1).f0).length c115_0] (by rfl) rfl rfl Z16 ?_
         with_reducible refine (impl_PlaceOk.calls k1 _ _ ((rd_T72 l0 x7_1).f0) true _ ?s1 ?s2 A5.out).mono ?_
         (case s1 => exact Z4 aL.out)
         (case s2 => exact aM.out)
         rintro e dZ ⟨rfl, hb⟩
         refine ⟨_, rfl, ?_⟩
         replace aA := A_ (bb (Z2 aA.out) hb); replace HB := A_ (bst (Z3 aK.out) hb); (try clear hb); (try clear bF); (try clear hk); (try clear hi)
         refine hK.out _ _ ⟨(bc aA.out 0).trans rfl, (bc aA.out 1).trans rfl⟩ (fun hHeld => ?_)
         clear hK K
         refine norm_ (a' := ?_) ?_ ?_
         rotate_left; (·exact Z42); refine pU 3 15 M29 ?_; refine pU 4 16 M30 ?_; refine pU 5 17 M31 ?_; refine tU 6 18 M32 ?_ (y := Z44); refine pU 7 19 M33 ?_; refine pU 8 20 M34 ?_; refine pU 9 21 M35 ?_; refine pU 10 22 M36 ?_; refine pU 11 23 M37 ?_; refine tU 12 24 M38 ?_ (y := Z44)
         refine oU 13 (some 25) M39 (fun K hK => ?_)
         refine goes_ Try.func62 (by kernel_rfl) rfl #[.slice aC ((rd_T72 l0 x7_1).f1).length aD] (by rfl) rfl rfl Z16 ?_
         with_reducible refine (impl_valsOk.calls k1 _ _ ((rd_T72 l0 x7_1).f1) false _ ?s1 ?s2 bO.out).mono ?_
         (case s1 => exact Z4 aN.out)
         (case s2 => exact aO.out)
         rintro e d0 ⟨rfl, hb⟩
         refine ⟨_, rfl, ?_⟩
         replace aA := A_ (bb (Z2 aA.out) hb); replace HB := A_ (bst (Z3 aK.out) hb); (try clear hb); (try clear bF); (try clear hk); (try clear hi)
         refine hK.out _ _ ⟨(bc aA.out 0).trans rfl, (bc aA.out 1).trans rfl⟩ (fun hHeld => ?_)
         clear hK K
         refine norm_ (a' := ?_) ?_ ?_
         rotate_left; (·exact Z31); refine pU 14 26 M40 ?_; refine pU 15 27 M41 ?_; refine pU 16 28 M42 ?_; refine pN 17 29 M43 ?_; refine pN 18 30 M44 ?_; refine pN 19 31 M45 ?_; refine pN 20 32 M46 ?_; refine pN 21 33 M47 ?_; refine pN 22 34 M48 ?_; refine pN 23 35 M49 ?_; refine pN 24 36 M50 ?_; refine pN 25 37 M51 ?_; refine pN 26 38 M52 ?_; refine pN 27 39 M53 ?_; refine pN 28 40 M54 ?_; refine pN 29 41 M55 ?_; refine pN 30 42 M56 ?_; refine pU 31 43 M57 ?_
         refine done_ (done_of HT_.out (by kernel_rfl)) ?_
         try go_wp2
         go_ret
         exact ⟨Z7, Z3 aK.out⟩
      ·replace c6 := Bool.eq_false_iff.mpr c6
       subst c6; rw [if_neg (show ¬ (false = true) by decide)] at H; obtain rfl := Option.some.inj H; have aT : 0 ≤ (x7_1 : Int) := odt; have aU : x7_1 < (l0.length : Int) := odt; obtain ⟨aW, A115_0, c115_0, aC, aD, a4, aE, aF, aG, aH, aI, aJ⟩ := at_T72 bJ.out x7_1 aT aU; cases a4; replace aE := ZC HB.out aE; replace aF := ZC HB.out aF; have aL := A_ aH; have aM := A_ aG; clear aH aG; have aN := A_ aJ; have aO := A_ aI; clear aJ aI; replace aT := eq_true aT; replace aU := eq_true aU
       try go_wp2_with (first | ((with_reducible refine gate_dst (N := 4) rfl ?_); (try (refine gate_guard (by rfl) ?_; dsimp only)); refine be (cs := #[.slice none 0 0, .slice none 0 0]) (t := 72) ?_; intro aB hg cV hbox hb; have aA := A_ hbox; have aX := A_ (gl hg (bz Z1)); have aK := aX; replace HB := A_ (bst Z1 hb); clear hb hbox hg; obtain ⟨cD, cE, cF, cG⟩ := C2 aA.out))
       have a5 : Aside0 (((cV.setCell ⟨aB, 0, none⟩ (.slice A115_0 ((rd_T72 l0 x7_1).f0).length c115_0)).setCell ⟨aB, 1, none⟩ (.slice aC ((rd_T72 l0 x7_1).f1).length aD)).heap[aB]? = some (.cells #[.slice A115_0 ((rd_T72 l0 x7_1).f0).length c115_0, .slice aC ((rd_T72 l0 x7_1).f1).length aD] 72 (0, 0))) := ⟨Z21 aA.out⟩; have a6 : Aside0 (Below w.heap.size w ((cV.setCell ⟨aB, 0, none⟩ (.slice A115_0 ((rd_T72 l0 x7_1).f0).length c115_0)).setCell ⟨aB, 1, none⟩ (.slice aC ((rd_T72 l0 x7_1).f1).length aD))) := ⟨Z3 aK.out⟩; (try clear aA); (try clear HB); generalize ((cV.setCell ⟨aB, 0, none⟩ (.slice A115_0 ((rd_T72 l0 x7_1).f0).length c115_0)).setCell ⟨aB, 1, none⟩ (.slice aC ((rd_T72 l0 x7_1).f1).length aD)) = dJ at a5 a6 ⊢; have aA := a5; have HB := a6; clear a5 a6; replace aA := A_ (blk_drew aA.out); replace HB := A_ (below_drew1 HB.out)
       refine start_ (n := 32) (S := fun w' => w'.cell? ⟨aB, 0, none⟩ = some (.slice A115_0 ((rd_T72 l0 x7_1).f0).length c115_0) ∧ w'.cell? ⟨aB, 1, none⟩ = some (.slice aC ((rd_T72 l0 x7_1).f1).length aD)) (ds := []) M25 (by kernel_rfl) rfl rfl ⟨(bc aA.out 0).trans rfl, (bc aA.out 1).trans rfl⟩ (fun hHeld => ?_); refine with_tabW impl_StoreOk.tab4 impl_StoreOk.bits4 (fun HT_ HW_ => ?_)
       generalize dJ.drew = d1 at aA HB hHeld ⊢; refine pU 0 12 M26 ?_; refine tU 1 13 M27 ?_ (y := Z44)
       refine oU 2 (some 14) M28 (fun K hK => ?_)
       refine goes_ Try.func61 (by kernel_rfl) rfl #[.slice A115_0 ((rd_T72 l0 x7_1).f0).length c115_0] (by rfl) rfl rfl Z16 ?_
       with_reducible refine (impl_PlaceOk.calls k1 _ _ ((rd_T72 l0 x7_1).f0) false _ ?s1 ?s2 A5.out).mono ?_
       (case s1 => exact Z4 aL.out)
       (case s2 => exact aM.out)
       rintro e d2 ⟨rfl, hb⟩
       refine ⟨_, rfl, ?_⟩
       replace aA := A_ (bb (Z2 aA.out) hb); replace HB := A_ (bst (Z3 aK.out) hb); (try clear hb); (try clear bF); (try clear hk); (try clear hi)
       refine hK.out _ _ ⟨(bc aA.out 0).trans rfl, (bc aA.out 1).trans rfl⟩ (fun hHeld => ?_)
       clear hK K
       refine norm_ (a' := ?_) ?_ ?_
       rotate_left; (·exact Z42); refine pU 3 15 M29 ?_; refine pU 4 16 M30 ?_; refine pN 5 17 M31 ?_; refine pN 6 18 M32 ?_; refine pN 7 19 M33 ?_; refine pN 8 20 M34 ?_; refine pU 9 21 M35 ?_; refine pU 10 22 M36 ?_; refine pN 11 23 M37 ?_; refine pN 12 24 M38 ?_; refine pN 13 25 M39 ?_; refine pN 14 26 M40 ?_; refine pU 15 27 M41 ?_; refine pU 16 28 M42 ?_; refine pN 17 29 M43 ?_; refine pN 18 30 M44 ?_; refine pN 19 31 M45 ?_; refine pN 20 32 M46 ?_; refine pN 21 33 M47 ?_; refine pN 22 34 M48 ?_; refine pN 23 35 M49 ?_; refine pN 24 36 M50 ?_; refine pN 25 37 M51 ?_; refine pN 26 38 M52 ?_; refine pN 27 39 M53 ?_; refine pN 28 40 M54 ?_; refine pN 29 41 M55 ?_; refine pN 30 42 M56 ?_; refine pU 31 43 M57 ?_
       refine done_ (done_of HT_.out (by kernel_rfl)) ?_
       try go_wp2
       go_ret
       exact ⟨Z7, Z3 aK.out⟩
     ·exact Z45
    ·exact Z50
   ·rw [if_neg c2] at H
    have cH := df c2; clear c2; obtain rfl := Option.some.inj H
    go_wp2
    go_ret
    exact ⟨Z7, Z1⟩
end Go.Proofs.Ytgbbcebjgpoioaa.PFnExactHistRedo
