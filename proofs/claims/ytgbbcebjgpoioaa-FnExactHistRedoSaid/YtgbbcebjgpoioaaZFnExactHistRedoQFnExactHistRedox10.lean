/- Walks (lines of the print; no condition). -/
import Derived.Test.YtgbbcebjgpoioaaZFnExactHistRedoQFnExactHistRedox9
namespace Go.Proofs.Ytgbbcebjgpoioaa.PFnExactHistRedo
open Go.RowKit Go.Proofs.YtgbbcebjgpoioaaW.PrintWords Go.Proofs.YtgbbcebjgpoioaaW.PrintLast Go.Proofs.YtgbbcebjgpoioaaW.PrintMore
attribute [local go_sem] max2_int min2_int max_two min_two max_three min_three max_four min_four
set_option linter.unusedVariables false
set_option linter.unusedSimpArgs false
set_option maxHeartbeats 8000000
set_option maxRecDepth 100000
def spec_validStores.l0 : Nat → List (List (S72)) → Int → Option (Bool)
 | 0, _, _ => none
 | k + 1, x0, x3 => if x3 < (x0.length : Int) then (if 0 ≤ x3 then ((spec_validStore.f k (rd_L7 x0 x3)).bind fun aA => (if aA = true then (spec_validStores.l0 k x0 (wrap64 (x3 + 1))) else (some false))) else (none)) else (some true)
def spec_validStores.f (k : Nat) (l0 : List (List (S72))) : Option (Bool) := if (l0.length : Int) > 6 then (some false) else (spec_validStores.l0 k l0 0)
theorem spec_validStores.calls (k : Nat) (A0 : Option Addr) (c0 : Nat) (l0 : List (List (S72))) (r : Bool) (w : World) (aQ : Kd.C (Kd.slice 72 k72) w A0 l0.length l0) (hc0 : l0.length ≤ c0) (h : spec_validStores.f k l0 = some r) :
  Calls Try.prog 52 #[.slice A0 l0.length c0] w fun e w' => e = .returned (.bool r) ∧ Below w.heap.size w w' := by
 have aR := A_ aQ; have aV := A_ hc0; clear aQ hc0; have HB := A_ (Below.refl w.heap.size w); have H := h; unfold spec_validStores.f at H; clear h
 by_cases c2 : (l0.length : Int) > 6
 ·rw [if_pos c2] at H
  have aL : decide (6 < (l0.length : Int)) = true := dt c2; have aM : decide (6 < l0.length) = true := dt (by omega); clear c2; obtain rfl := Option.some.inj H
  go_enter Try.func52, Try.ntmps52
  go_wp2
  go_ret
  exact ⟨Z7, Z1⟩
 ·rw [if_neg c2] at H
  have aL : decide (6 < (l0.length : Int)) = false := df c2; have aM : decide (6 < l0.length) = false := df (by omega); clear c2; have H' := A_ H; clear H
  go_enter Try.func52, Try.ntmps52
  go_wp2
  go_loopg [3] k (fun kq v3 w' => ∃ (aA : Int), v3 = .int .i64 aA ∧ Aside0 (spec_validStores.l0 kq l0 aA = some r) ∧ Aside0 (kq ≤ k) ∧ Aside0 (Below w.heap.size w w'))
  case atStart => exact ⟨(0), Z17, H', ⟨Nat.le_refl _⟩, ⟨Z1⟩⟩
  case round =>
   clear H'; try clear c2
   try clear aL
   try clear aM
   obtain ⟨aA, rfl, HA, aS, HB⟩ := hrel
   cases gk with
   | zero => exact absurd HA.out (by simp [spec_validStores.l0])
   | succ k1 =>
    have H := HA.out; clear HA; simp only [spec_validStores.l0] at H
    by_cases c3 : aA < (l0.length : Int)
    ·rw [if_pos c3] at H
     have aO := dt c3; clear c3
     by_cases c4 : 0 ≤ aA
     ·rw [if_pos c4] at H
      have aU := dt c4; clear c4; replace H := bS H; obtain ⟨aP, aT, H⟩ := H
      try dsimp only at H
      have A5 := A_ aT; clear aT
      by_cases c6 : aP = true
      ·subst c6
       rw [if_pos rfl] at H; have H' := A_ H; clear H; have aG : 0 ≤ (aA : Int) := odt; have aH : aA < (l0.length : Int) := odt; obtain ⟨aN, aI, aJ, aK, aB, aC, aD⟩ := at_L7 aR.out aA aG aH; cases aK; replace aB := ZC HB.out aB; have aE := A_ aD; have aF := A_ aC; clear aD aC; replace aG := eq_true aG; replace aH := eq_true aH
       go_wp2_with (first | ((with_reducible refine gate_callee (f := 51) rfl ?_); refine gL 17 Try.func51 #[.slice aI (rd_L7 l0 aA).length aJ] ?_; (with_reducible refine (spec_validStore.calls k1 _ _ (rd_L7 l0 aA) true _ ?s1 aF.out A5.out).mono ?_); (case s1 => exact Z4 aE.out); rintro e w7 ⟨rfl, hb⟩; refine ⟨_, rfl, ?_⟩; replace HB := A_ (bst Z1 hb); (try clear hb)))
       go_roundg k1
       case measure => have := aS.out; omega
       case rel => exact ⟨(wrap64 (aA + 1)), Z17, H', ⟨by have := aS.out; omega⟩, ⟨Z1⟩⟩
      ·replace c6 := Bool.eq_false_iff.mpr c6
       subst c6; rw [if_neg (show ¬ (false = true) by decide)] at H; obtain rfl := Option.some.inj H; have aG : 0 ≤ (aA : Int) := odt; have aH : aA < (l0.length : Int) := odt; obtain ⟨aN, aI, aJ, aK, aB, aC, aD⟩ := at_L7 aR.out aA aG aH; cases aK; replace aB := ZC HB.out aB; have aE := A_ aD; have aF := A_ aC; clear aD aC; replace aG := eq_true aG; replace aH := eq_true aH
       go_wp2_with (first | ((with_reducible refine gate_callee (f := 51) rfl ?_); refine gL 17 Try.func51 #[.slice aI (rd_L7 l0 aA).length aJ] ?_; (with_reducible refine (spec_validStore.calls k1 _ _ (rd_L7 l0 aA) false _ ?s1 aF.out A5.out).mono ?_); (case s1 => exact Z4 aE.out); rintro e w8 ⟨rfl, hb⟩; refine ⟨_, rfl, ?_⟩; replace HB := A_ (bst Z1 hb); (try clear hb)))
       go_ret
       exact ⟨Z7, Z1⟩
     ·exact Z45
    ·rw [if_neg c3] at H
     have aO := df c3; clear c3; obtain rfl := Option.some.inj H
     go_wp2
     go_ret
     exact ⟨Z7, Z1⟩
def spec_validHist.f (k : Nat) (aC : List (S72)) (aA : List (List (S72))) (aB : List (List (S72))) : Option (Bool) := (spec_validStore.f k aC).bind fun aD => (if aD = true then ((spec_validStores.f k aA).bind fun aE => (if aE = true then ((spec_validStores.f k aB).bind fun aF => (if aF = true then (some (decide ((wrap64 ((aA.length : Int) + (aB.length : Int))) ≤ 6))) else (some false))) else (some false))) else (some false))
theorem spec_validHist.calls (k : Nat) (aG : Option Addr) (aH : Nat) (aC : List (S72)) (aK : Option Addr) (aL : Nat) (aD : List (List (S72))) (aM : Option Addr) (aN : Nat) (aE : List (List (S72))) (r : Bool) (w : World) (aR : Kd.C k72 w aG aC.length aC) (aS : aC.length ≤ aH) (aT : Kd.C (Kd.slice 72 k72) w aK aD.length aD) (aU : aD.length ≤ aL) (aV : Kd.C (Kd.slice 72 k72) w aM aE.length aE) (aW : aE.length ≤ aN) (h : spec_validHist.f k aC aD aE = some r) :
  Calls Try.prog 24 #[.agg #[.slice aG aC.length aH, .slice aK aD.length aL, .slice aM aE.length aN]] w fun e w' => e = .returned (.bool r) ∧ Below w.heap.size w w' := by
 have cU := Try.underlying26; have aI := A_ aR; have aJ := A_ aS; clear aR aS; have aO := A_ aT; have aP := A_ aU; clear aT aU; have aX := A_ aV; have aY := A_ aW; clear aV aW; have HB := A_ (Below.refl w.heap.size w); have H := h; unfold spec_validHist.f at H; clear h; replace H := bS H; obtain ⟨cI, cR, H⟩ := H
 try dsimp only at H
 have A2 := A_ cR; clear cR
 by_cases c3 : cI = true
 ·subst c3
  rw [if_pos rfl] at H; replace H := bS H; obtain ⟨cJ, cS, H⟩ := H
  try dsimp only at H
  have A4 := A_ cS; clear cS
  by_cases c5 : cJ = true
  ·subst c5
   rw [if_pos rfl] at H; replace H := bS H; obtain ⟨cK, cT, H⟩ := H
   try dsimp only at H
   have A6 := A_ cT; clear cT
   by_cases c7 : cK = true
   ·subst c7
    rw [if_pos rfl] at H; obtain rfl := Option.some.inj H
    go_enter Try.func24, Try.ntmps24
    go_wp2_with (first | ((with_reducible refine gate_dst (N := 1) rfl ?_); (try (refine gate_guard (by rfl) ?_; dsimp only)); refine be (cs := #[.slice aG aC.length aH, .slice aK aD.length aL, .slice aM aE.length aN]) (t := 26) ?_; intro aQ hg w8 hbox hb; have aA := A_ hbox; have aF := A_ (gl hg (bz Z1)); have aB := aF; replace HB := A_ (bst Z1 hb); clear hb hbox hg; obtain ⟨cL, cM, cN, cO, cP, cQ⟩ := C3 aA.out) | ((with_reducible refine gate_callee (f := 51) rfl ?_); refine gL 5 Try.func51 #[.slice aG aC.length aH] ?_; (with_reducible refine (spec_validStore.calls k _ _ aC true _ ?s1 aJ.out A2.out).mono ?_); (case s1 => exact Z4 aI.out); rintro e cV ⟨rfl, hb⟩; refine ⟨_, rfl, ?_⟩; replace aA := A_ (bb (Z2 aA.out) hb); replace HB := A_ (bst (Z3 aB.out) hb); (try clear hb); obtain ⟨aZ, a0, a1, a2, a3, a4⟩ := C3 aA.out) | (go_at_call 52; (with_reducible refine (spec_validStores.calls k _ _ aD true _ ?s1 aP.out A4.out).mono ?_); (case s1 => exact Z4 aO.out); rintro e cW ⟨rfl, hb⟩; replace aA := A_ (bb (Z2 aA.out) hb); replace HB := A_ (bst (Z3 aB.out) hb); (try clear hb); obtain ⟨a5, a6, a7, a8, a9, bA⟩ := C3 aA.out) | (go_at_call 52; (with_reducible refine (spec_validStores.calls k _ _ aE true _ ?s1 aY.out A6.out).mono ?_); (case s1 => exact Z4 aX.out); rintro e cX ⟨rfl, hb⟩; replace aA := A_ (bb (Z2 aA.out) hb); replace HB := A_ (bst (Z3 aB.out) hb); (try clear hb); obtain ⟨bB, bC, bD, bE, bF, bG⟩ := C3 aA.out))
    go_ret
    exact ⟨Z7, Z3 aB.out⟩
   ·replace c7 := Bool.eq_false_iff.mpr c7
    subst c7; rw [if_neg (show ¬ (false = true) by decide)] at H; obtain rfl := Option.some.inj H
    go_enter Try.func24, Try.ntmps24
    go_wp2_with (first | ((with_reducible refine gate_dst (N := 1) rfl ?_); (try (refine gate_guard (by rfl) ?_; dsimp only)); refine be (cs := #[.slice aG aC.length aH, .slice aK aD.length aL, .slice aM aE.length aN]) (t := 26) ?_; intro aQ hg cY hbox hb; have aA := A_ hbox; have aF := A_ (gl hg (bz Z1)); have aB := aF; replace HB := A_ (bst Z1 hb); clear hb hbox hg; obtain ⟨bH, bI, bJ, bK, bL, bM⟩ := C3 aA.out) | ((with_reducible refine gate_callee (f := 51) rfl ?_); refine gL 5 Try.func51 #[.slice aG aC.length aH] ?_; (with_reducible refine (spec_validStore.calls k _ _ aC true _ ?s1 aJ.out A2.out).mono ?_); (case s1 => exact Z4 aI.out); rintro e cZ ⟨rfl, hb⟩; refine ⟨_, rfl, ?_⟩; replace aA := A_ (bb (Z2 aA.out) hb); replace HB := A_ (bst (Z3 aB.out) hb); (try clear hb); obtain ⟨bN, bO, bP, bQ, bR, bT⟩ := C3 aA.out) | (go_at_call 52; (with_reducible refine (spec_validStores.calls k _ _ aD true _ ?s1 aP.out A4.out).mono ?_); (case s1 => exact Z4 aO.out); rintro e dA ⟨rfl, hb⟩; replace aA := A_ (bb (Z2 aA.out) hb); replace HB := A_ (bst (Z3 aB.out) hb); (try clear hb); obtain ⟨bU, bV, bW, bX, bY, bZ⟩ := C3 aA.out) | (go_at_call 52; (with_reducible refine (spec_validStores.calls k _ _ aE false _ ?s1 aY.out A6.out).mono ?_); (case s1 => exact Z4 aX.out); rintro e dB ⟨rfl, hb⟩; replace aA := A_ (bb (Z2 aA.out) hb); replace HB := A_ (bst (Z3 aB.out) hb); (try clear hb)))
    go_ret
    exact ⟨Z7, Z3 aB.out⟩
  ·replace c5 := Bool.eq_false_iff.mpr c5
   subst c5; rw [if_neg (show ¬ (false = true) by decide)] at H; obtain rfl := Option.some.inj H
   go_enter Try.func24, Try.ntmps24
   go_wp2_with (first | ((with_reducible refine gate_dst (N := 1) rfl ?_); (try (refine gate_guard (by rfl) ?_; dsimp only)); refine be (cs := #[.slice aG aC.length aH, .slice aK aD.length aL, .slice aM aE.length aN]) (t := 26) ?_; intro aQ hg dC hbox hb; have aA := A_ hbox; have aF := A_ (gl hg (bz Z1)); have aB := aF; replace HB := A_ (bst Z1 hb); clear hb hbox hg; obtain ⟨b0, b1, b2, b3, b4, b5⟩ := C3 aA.out) | ((with_reducible refine gate_callee (f := 51) rfl ?_); refine gL 5 Try.func51 #[.slice aG aC.length aH] ?_; (with_reducible refine (spec_validStore.calls k _ _ aC true _ ?s1 aJ.out A2.out).mono ?_); (case s1 => exact Z4 aI.out); rintro e dD ⟨rfl, hb⟩; refine ⟨_, rfl, ?_⟩; replace aA := A_ (bb (Z2 aA.out) hb); replace HB := A_ (bst (Z3 aB.out) hb); (try clear hb); obtain ⟨b6, b7, b8, b9, cA, cB⟩ := C3 aA.out) | (go_at_call 52; (with_reducible refine (spec_validStores.calls k _ _ aD false _ ?s1 aP.out A4.out).mono ?_); (case s1 => exact Z4 aO.out); rintro e dE ⟨rfl, hb⟩; replace aA := A_ (bb (Z2 aA.out) hb); replace HB := A_ (bst (Z3 aB.out) hb); (try clear hb)))
   go_ret
   exact ⟨Z7, Z3 aB.out⟩
 ·replace c3 := Bool.eq_false_iff.mpr c3
  subst c3; rw [if_neg (show ¬ (false = true) by decide)] at H; obtain rfl := Option.some.inj H
  go_enter Try.func24, Try.ntmps24
  go_wp2_with (first | ((with_reducible refine gate_dst (N := 1) rfl ?_); (try (refine gate_guard (by rfl) ?_; dsimp only)); refine be (cs := #[.slice aG aC.length aH, .slice aK aD.length aL, .slice aM aE.length aN]) (t := 26) ?_; intro aQ hg dF hbox hb; have aA := A_ hbox; have aF := A_ (gl hg (bz Z1)); have aB := aF; replace HB := A_ (bst Z1 hb); clear hb hbox hg; obtain ⟨cC, cD, cE, cF, cG, cH⟩ := C3 aA.out) | ((with_reducible refine gate_callee (f := 51) rfl ?_); refine gL 5 Try.func51 #[.slice aG aC.length aH] ?_; (with_reducible refine (spec_validStore.calls k _ _ aC false _ ?s1 aJ.out A2.out).mono ?_); (case s1 => exact Z4 aI.out); rintro e dG ⟨rfl, hb⟩; refine ⟨_, rfl, ?_⟩; replace aA := A_ (bb (Z2 aA.out) hb); replace HB := A_ (bst (Z3 aB.out) hb); (try clear hb)))
  go_ret
  exact ⟨Z7, Z3 aB.out⟩
def spec_copyCell.f (aA : List (S96)) (aB : List (S98)) : Option ((List (S96)) × (List (S98))) := (some (([] : List (S96)) : List (S96))).bind fun aC => (if aC.length + aA.length < 8796093022208 then ((some (([] : List (S98)) : List (S98))).bind fun aD => (if aD.length + aB.length < 4398046511104 then (some ((aC ++ aA), (aD ++ aB))) else (none))) else (none))
def spec_copyCell.T1 : Bool × List (List Nat × List Nat) := (true, [([], []), ([], []), ([1], [1]), ([0, 2], [0, 2]), ([], []), ([], []), ([5], [5]), ([4, 6, 3], [4, 6]), ([3, 7], [3, 7]), ([8, 7, 0, 1, 2, 3, 4, 5, 6, 7, 8], [8])])
def spec_copyCell.B1 : List Nat := [0, 0, 2, 7, 0, 0, 32, 127, 255, 511]
theorem spec_copyCell.tab1 : rtab .any (opsOf Try.f58 1) = spec_copyCell.T1 := by kernel_rfl
theorem spec_copyCell.bits1 : waitsOk spec_copyCell.T1.2 spec_copyCell.B1 = true := by kernel_rfl
theorem spec_copyCell.calls (aW : Option Addr) (aX : Nat) (aM : List (S96)) (aY : Option Addr) (aZ : Nat) (aJ : List (S98)) (r1 : List (S96)) (r2 : List (S98)) (w : World) (bE : Kd.C k96 w aW aM.length aM) (bF : aM.length ≤ aX) (bG : Kd.C k98 w aY aJ.length aJ) (bH : aJ.length ≤ aZ) (h : spec_copyCell.f aM aJ = some (r1, r2)) :
  Calls Try.prog 58 #[.agg #[.slice aW aM.length aX, .slice aY aJ.length aZ]] w fun e w' => ∃ b7 b8 : Value, e = .returned (.agg #[b7, b8]) ∧ Kd.R k96 96 w' w.heap.size (fun _ => True) b7 r1 ∧ Kd.R k98 98 w' w.heap.size (fun _ => True) b8 r2 ∧ Below w.heap.size w w' := by
 have cK := Try.underlying72; have a6 := A_ bE; have b9 := A_ bF; clear bE bF; have bL := A_ bG; have cA := A_ bH; clear bG bH; have HB := A_ (Below.refl w.heap.size w); have H := h; unfold spec_copyCell.f at H; clear h; obtain ⟨a2, a7⟩ : ∃ y_ : List (S96), y_ = (([] : List (S96))) := ⟨_, rfl⟩; replace H : (if a2.length + aM.length < 8796093022208 then ((some (([] : List (S98)) : List (S98))).bind fun aP => (if aP.length + aJ.length < 4398046511104 then (some ((a2 ++ aM), (aP ++ aJ))) else (none))) else (none)) = some (r1, r2) := yH a7; have a4 := A_ a7; clear a7
 by_cases c2 : a2.length + aM.length < 8796093022208
 ·rw [if_pos c2] at H
  have bJ := A_ c2; clear c2; obtain ⟨a8, a9⟩ : ∃ y_ : List (S96), y_ = (a2 ++ aM) := ⟨_, rfl⟩; replace H : ((some (([] : List (S98)) : List (S98))).bind fun aP => (if aP.length + aJ.length < 4398046511104 then (some (a8, (aP ++ aJ))) else (none))) = some (r1, r2) := yH a9; have bA := A_ a9; clear a9; obtain ⟨aP, bB⟩ : ∃ y_ : List (S98), y_ = (([] : List (S98))) := ⟨_, rfl⟩; replace H : (if aP.length + aJ.length < 4398046511104 then (some (a8, (aP ++ aJ))) else (none)) = some (r1, r2) := yH bB; have aU := A_ bB; clear bB
  by_cases c3 : aP.length + aJ.length < 4398046511104
  ·rw [if_pos c3] at H
   have bY := A_ c3; clear c3; obtain ⟨bZ, a5⟩ : ∃ y_ : List (S98), y_ = (aP ++ aJ) := ⟨_, rfl⟩
   first | rw [← a5, Option.bind_some] at H | rw [← a5] at H
   have bM := A_ a5; clear a5; simp only [Option.some.injEq, Prod.mk.injEq] at H; obtain ⟨rfl, rfl⟩ := H
   go_enter Try.func58, Try.ntmps58
   try go_wp2_with (first | ((with_reducible refine gate_dst (N := 1) rfl ?_); refine be (cs := #[.slice aW aM.length aX, .slice aY aJ.length aZ]) (t := 72) ?_; intro aN hg w4 hbox hb; have aA := A_ hbox; have bN := A_ (gl hg (bz Z1)); have aD := bN; replace HB := A_ (bst Z1 hb); clear hb hbox hg) | ((with_reducible refine gate_dst (N := 2) rfl ?_); refine be (cs := #[.slice none 0 0, .slice none 0 0]) (t := 72) ?_; intro aQ hg w5 hbox hb; have aC := A_ hbox; have bO := A_ (gl hg (bz (Z3 aD.out))); have aE := bO; replace HB := A_ (bst (Z3 aD.out) hb); have aI := A_ ((by rw [hg]; exact nl (blk_lt (Z2 aA.out)) : aN ≠ aQ)); have aV := A_ ((by rw [hg]; exact Nat.ne_of_gt (blk_lt (Z2 aA.out)) : aQ ≠ aN)); replace aA := A_ (bb (Z2 aA.out) hb); clear hb hbox hg))
   replace aA := A_ (blk_drew aA.out); replace aC := A_ (blk_drew aC.out); replace HB := A_ (below_drew1 HB.out)
   refine start_ (n := 10) (S := fun w' => w'.cell? ⟨aN, 0, none⟩ = some (.slice aW aM.length aX) ∧ w'.cell? ⟨aN, 1, none⟩ = some (.slice aY aJ.length aZ)) (ds := []) M0 (by kernel_rfl) rfl rfl ⟨(bc aA.out 0).trans rfl, (bc aA.out 1).trans rfl⟩ (fun hHeld => ?_); refine with_tabW spec_copyCell.tab1 spec_copyCell.bits1 (fun HT_ HW_ => ?_)
   generalize w5.drew = w6 at aA aC HB hHeld ⊢; refine pU 1 4 #[F,T,F,F,F,F,F,F,F,F] ?_; refine pU 5 8 #[F,T,F,F,F,T,F,F,F,F] ?_; refine tU 2 5 #[F,T,T,F,F,T,F,F,F,F] ?_ (y := Z44); refine tU 6 9 #[F,T,T,F,F,T,T,F,F,F] ?_ (y := Z44)
   refine join_ (σ := Value × Value × Value) 3 M1 (fun s_ => [(3, s_.1), (6, s_.2.1), (7, s_.2.2)]) (fun s_ w' => (w'.cell? ⟨aN, 0, none⟩ = some (.slice aW aM.length aX) ∧ w'.cell? ⟨aN, 1, none⟩ = some (.slice aY aJ.length aZ)) ∧ (Kd.R k96 96 w' w.heap.size (fun _ => True) s_.2.1 a8) ∧ (Kd.R k98 98 w' w.heap.size (fun _ => True) s_.2.2 aP) ∧ (w'.heap[aN]? = some (.cells #[.slice aW aM.length aX, .slice aY aJ.length aZ] 72 (0, 0))) ∧ (w'.heap[aQ]? = some (.cells #[.slice none 0 0, .slice none 0 0] 72 (0, 0))) ∧ (Below w.heap.size w w')) ?_ ?_
   rotate_left
   ·intro hCont
    refine two_ (i := 0) (j := 4) (Ni := some 3) (Nj := some 7) #[T,T,T,F,F,T,T,F,F,F] #[F,T,T,F,T,T,T,F,F,F] rfl rfl rfl rfl (two_of HT_.out (by kernel_rfl)) (by decide) (by decide) (fun K hK => ?_) (fun K hK => ?_)
    ·skip
     refine Kd.R_lit_step k96 _ 96 ?hg (N := 3) ?hd (xs := ([] : List (S96))) (inner := []) (ok := fun _ => True) (okp := fun _ => True) ?hr ?hp (fun _ hk => hk) trivial (Below.refl _ _) (Nat.le_refl _) (by simp) ?_; (case hd => rfl); (case hg => rfl); (case hr => exact Z36); (case hp => exact (Reps.none _ _))
     intro a0 w7 bC hb hg_ hnew_
     clear hg_ hnew_; (first | rw [← a4.out] at bC | (simp only [Int.reduceToNat] at bC; rw [← a4.out] at bC)); have aG := A_ (Kd.R_lower bC (bz (Z5 aD.out aE.out))); replace aA := A_ (bb (Z2 aA.out) hb); replace aC := A_ (bb (Z2 aC.out) hb); replace HB := A_ (bst (Z5 aD.out aE.out) hb); clear hb bC
     refine hK.out _ _ ⟨(bc aA.out 0).trans rfl, (bc aA.out 1).trans rfl⟩ (fun hHeld => ?_)
     clear hK K
     refine norm_ (a' := ?_) ?_ ?_
     rotate_left
     ·show Act.put _ (some 3) _ = _
      simp only [Act.put, List.setIfInBounds_toArray, List.set_cons_zero, List.set_cons_succ, i64_w, i32_w]
      rfl
     refine two_ (i := 3) (j := 4) (Ni := some 6) (Nj := some 7) #[T,T,T,T,F,T,T,F,F,F] M2 rfl rfl rfl rfl (two_of HT_.out (by kernel_rfl)) (by decide) (by decide) (fun K hK => ?_) (fun K hK => ?_)
     ·skip
      refine Kd.R_append_rows_step k96 (w0 := w) w.heap.size (by rfl) (.tmp 3) (.tmp 5) 67 96 (.agg #[(.int .i64 0), (.int .i64 0)]) 16 rfl Try.underlying67 info96 rfl (by decide) (by omega) a0 a2 aM _ _ _ (fun _ => True) (fun _ => False) rfl rfl ?aO ?aR (fun _ _ h => h) (fun _ h => h.elim) ?aF ?aB ?aS ?aL ?_
      (case aR => exact Z4 a6.out)
      (case aB => exact (Z5 aD.out aE.out))
      (case aF => exact (fun _ _ => trivial))
      (case aO => exact (Z9 aG.out))
      (case aS => exact (bz (Z5 aD.out aE.out)))
      (case aL => have := bJ.out; omega)
      intro a3 w9 ho hb hg hat
      rw [← bA.out] at ho; replace aA := A_ (blk_grown (Z2 aA.out) hg (Kd.R_ne aG.out aA.out (by decide))); replace aC := A_ (blk_grown (Z2 aC.out) hg (Kd.R_ne aG.out aC.out (by decide))); replace HB := A_ hb; have aK := A_ ho; clear aG; clear ho hb hg hat
      refine hK.out _ _ ⟨(bc aA.out 0).trans rfl, (bc aA.out 1).trans rfl⟩ (fun hHeld => ?_)
      clear hK K
      refine norm_ (a' := ?_) ?_ ?_
      rotate_left; (·exact Z29)
      refine oU 4 (some 7) M1 (fun K hK => ?_)
      refine Kd.R_lit_step k98 _ 98 ?hg (N := 7) ?hd (xs := ([] : List (S98))) (inner := []) (ok := fun _ => True) (okp := fun _ => True) ?hr ?hp (fun _ hk => hk) trivial (Below.refl _ _) (Nat.le_refl _) (by simp) ?_; (case hd => rfl); (case hg => rfl); (case hr => exact Z36); (case hp => exact (Reps.none _ _))
      intro a1 cP bD hb hg_ hnew_
      clear hg_ hnew_; (first | rw [← aU.out] at bD | (simp only [Int.reduceToNat] at bD; rw [← aU.out] at bD)); replace aK := A_ (Rbl (Z9 aK.out) hb); have aH := A_ (Kd.R_lower bD (bz (Z5 aD.out aE.out))); replace aA := A_ (bb (Z2 aA.out) hb); replace aC := A_ (bb (Z2 aC.out) hb); replace HB := A_ (bst (Z5 aD.out aE.out) hb); clear hb bD
      refine hK.out _ _ ⟨(bc aA.out 0).trans rfl, (bc aA.out 1).trans rfl⟩ (fun hHeld => ?_)
      clear hK K
      refine norm_ (a' := ?_) ?_ ?_
      rotate_left; (·exact Z28)
      exact norm_ Z35 (hCont (a0, a3, a1) _ ⟨hHeld, (Z9 aK.out), (Z9 aH.out), (Z2 aA.out), (Z2 aC.out), (Z5 aD.out aE.out)⟩)
     ·skip
      refine Kd.R_lit_step k98 _ 98 ?hg (N := 7) ?hd (xs := ([] : List (S98))) (inner := []) (ok := fun _ => True) (okp := fun _ => True) ?hr ?hp (fun _ hk => hk) trivial (Below.refl _ _) (Nat.le_refl _) (by simp) ?_; (case hd => rfl); (case hg => rfl); (case hr => exact Z36); (case hp => exact (Reps.none _ _))
      intro a1 w9 aT hb hg_ hnew_
      clear hg_ hnew_; (first | rw [← aU.out] at aT | (simp only [Int.reduceToNat] at aT; rw [← aU.out] at aT)); replace aG := A_ (Rbl (Z9 aG.out) hb); have aH := A_ (Kd.R_lower aT (bz (Z5 aD.out aE.out))); replace aA := A_ (bb (Z2 aA.out) hb); replace aC := A_ (bb (Z2 aC.out) hb); replace HB := A_ (bst (Z5 aD.out aE.out) hb); clear hb aT
      refine hK.out _ _ ⟨(bc aA.out 0).trans rfl, (bc aA.out 1).trans rfl⟩ (fun hHeld => ?_)
      clear hK K
      refine norm_ (a' := ?_) ?_ ?_
      rotate_left; (·exact Z28)
      refine oU 3 (some 6) M1 (fun K hK => ?_)
      refine Kd.R_append_rows_step k96 (w0 := w) w.heap.size (by rfl) (.tmp 3) (.tmp 5) 67 96 (.agg #[(.int .i64 0), (.int .i64 0)]) 16 rfl Try.underlying67 info96 rfl (by decide) (by omega) a0 a2 aM _ _ _ (fun _ => True) (fun _ => False) rfl rfl ?aO ?aR (fun _ _ h => h) (fun _ h => h.elim) ?aF ?aB ?aS ?aL ?_
      (case aR => exact Z4 a6.out)
      (case aB => exact (Z5 aD.out aE.out))
      (case aF => exact (fun _ _ => trivial))
      (case aO => exact (Z9 aG.out))
      (case aS => exact (bz (Z5 aD.out aE.out)))
      (case aL => have := bJ.out; omega)
      intro a3 cL ho hb hg hat
      rw [← bA.out] at ho; replace aA := A_ (blk_grown (Z2 aA.out) hg (Kd.R_ne aG.out aA.out (by decide))); replace aC := A_ (blk_grown (Z2 aC.out) hg (Kd.R_ne aG.out aC.out (by decide))); replace aH := A_ (Kd.R_over' (Z9 aH.out) (Kd.R_typed (Z9 aG.out)) (by decide) hg); replace HB := A_ hb; have aK := A_ ho; clear aG; clear ho hb hg hat
      refine hK.out _ _ ⟨(bc aA.out 0).trans rfl, (bc aA.out 1).trans rfl⟩ (fun hHeld => ?_)
      clear hK K
      refine norm_ (a' := ?_) ?_ ?_
      rotate_left; (·exact Z29)
      exact norm_ Z35 (hCont (a0, a3, a1) _ ⟨hHeld, (Z9 aK.out), (Z9 aH.out), (Z2 aA.out), (Z2 aC.out), (Z5 aD.out aE.out)⟩)
    ·skip
     refine Kd.R_lit_step k98 _ 98 ?hg (N := 7) ?hd (xs := ([] : List (S98))) (inner := []) (ok := fun _ => True) (okp := fun _ => True) ?hr ?hp (fun _ hk => hk) trivial (Below.refl _ _) (Nat.le_refl _) (by simp) ?_; (case hd => rfl); (case hg => rfl); (case hr => exact Z36); (case hp => exact (Reps.none _ _))
     intro a1 w7 bC hb hg_ hnew_
     clear hg_ hnew_; (first | rw [← aU.out] at bC | (simp only [Int.reduceToNat] at bC; rw [← aU.out] at bC)); have aH := A_ (Kd.R_lower bC (bz (Z5 aD.out aE.out))); replace aA := A_ (bb (Z2 aA.out) hb); replace aC := A_ (bb (Z2 aC.out) hb); replace HB := A_ (bst (Z5 aD.out aE.out) hb); clear hb bC
     refine hK.out _ _ ⟨(bc aA.out 0).trans rfl, (bc aA.out 1).trans rfl⟩ (fun hHeld => ?_)
     clear hK K
     refine norm_ (a' := ?_) ?_ ?_
     rotate_left; (·exact Z28)
     refine oU 0 (some 3) M2 (fun K hK => ?_)
     refine Kd.R_lit_step k96 _ 96 ?hg (N := 3) ?hd (xs := ([] : List (S96))) (inner := []) (ok := fun _ => True) (okp := fun _ => True) ?hr ?hp (fun _ hk => hk) trivial (Below.refl _ _) (Nat.le_refl _) (by simp) ?_; (case hd => rfl); (case hg => rfl); (case hr => exact Z36); (case hp => exact (Reps.none _ _))
     intro a0 w9 aT hb hg_ hnew_
     clear hg_ hnew_; (first | rw [← a4.out] at aT | (simp only [Int.reduceToNat] at aT; rw [← a4.out] at aT)); replace aH := A_ (Rbl (Z9 aH.out) hb); have aG := A_ (Kd.R_lower aT (bz (Z5 aD.out aE.out))); replace aA := A_ (bb (Z2 aA.out) hb); replace aC := A_ (bb (Z2 aC.out) hb); replace HB := A_ (bst (Z5 aD.out aE.out) hb); clear hb aT
     refine hK.out _ _ ⟨(bc aA.out 0).trans rfl, (bc aA.out 1).trans rfl⟩ (fun hHeld => ?_)
     clear hK K
     refine norm_ (a' := ?_) ?_ ?_
     rotate_left
     ·show Act.put _ (some 3) _ = _
      simp only [Act.put, List.setIfInBounds_toArray, List.set_cons_zero, List.set_cons_succ, i64_w, i32_w]
      rfl
     refine oU 3 (some 6) M1 (fun K hK => ?_)
     refine Kd.R_append_rows_step k96 (w0 := w) w.heap.size (by rfl) (.tmp 3) (.tmp 5) 67 96 (.agg #[(.int .i64 0), (.int .i64 0)]) 16 rfl Try.underlying67 info96 rfl (by decide) (by omega) a0 a2 aM _ _ _ (fun _ => True) (fun _ => False) rfl rfl ?aO ?aR (fun _ _ h => h) (fun _ h => h.elim) ?aF ?aB ?aS ?aL ?_
     (case aR => exact Z4 a6.out)
     (case aB => exact (Z5 aD.out aE.out))
     (case aF => exact (fun _ _ => trivial))
     (case aO => exact (Z9 aG.out))
     (case aS => exact (bz (Z5 aD.out aE.out)))
     (case aL => have := bJ.out; omega)
     intro a3 cL ho hb hg hat
     rw [← bA.out] at ho; replace aA := A_ (blk_grown (Z2 aA.out) hg (Kd.R_ne aG.out aA.out (by decide))); replace aC := A_ (blk_grown (Z2 aC.out) hg (Kd.R_ne aG.out aC.out (by decide))); replace aH := A_ (Kd.R_over' (Z9 aH.out) (Kd.R_typed (Z9 aG.out)) (by decide) hg); replace HB := A_ hb; have aK := A_ ho; clear aG; clear ho hb hg hat
     refine hK.out _ _ ⟨(bc aA.out 0).trans rfl, (bc aA.out 1).trans rfl⟩ (fun hHeld => ?_)
     clear hK K
     refine norm_ (a' := ?_) ?_ ?_
     rotate_left; (·exact Z29)
     exact norm_ Z35 (hCont (a0, a3, a1) _ ⟨hHeld, (Z9 aK.out), (Z9 aH.out), (Z2 aA.out), (Z2 aC.out), (Z5 aD.out aE.out)⟩)
   rintro ⟨a0, a3, a1⟩ bK ⟨hS_, cB, h1_, h2_, h3_, h4_⟩
   have cC : Aside0 (Kd.R k96 96 bK w.heap.size (fun _ => True) a3 a8) := ⟨cB⟩; have cD : Aside0 (Kd.R k98 98 bK w.heap.size (fun _ => True) a1 aP) := ⟨h1_⟩; have cE : Aside0 (bK.heap[aN]? = some (.cells #[.slice aW aM.length aX, .slice aY aJ.length aZ] 72 (0, 0))) := ⟨h2_⟩; have cF : Aside0 (bK.heap[aQ]? = some (.cells #[.slice none 0 0, .slice none 0 0] 72 (0, 0))) := ⟨h3_⟩; have cG : Aside0 (Below w.heap.size w bK) := ⟨h4_⟩; clear aA; clear aC; clear HB; clear cB h1_ h2_ h3_ h4_; have aK := cC; have aH := cD; have aA := cE; have aC := cF; have HB := cG; clear cC cD cE cF cG; have hHeld : bK.cell? ⟨aN, 0, none⟩ = some (.slice aW aM.length aX) ∧ bK.cell? ⟨aN, 1, none⟩ = some (.slice aY aJ.length aZ) := hS_
   refine norm_ (a' := ?_) ?_ ?_
   rotate_left; (·exact Z48)
   refine oU 7 (some 10) M3 (fun K hK => ?_)
   refine Kd.R_append_rows_step k98 (w0 := w) w.heap.size (by rfl) (.tmp 7) (.tmp 9) 69 98 (.agg #[(.int .i64 0), (.int .i64 0), (.string ⟨#[]⟩)]) 32 rfl Try.underlying69 info98 rfl (by decide) (by omega) a1 aP aJ _ _ _ (fun _ => True) (fun _ => False) rfl rfl ?aO ?aR (fun _ _ h => h) (fun _ h => h.elim) ?aF ?aB ?aS ?aL ?_
   (case aR => exact Z4 bL.out)
   (case aB => exact (Z5 aD.out aE.out))
   (case aF => exact (fun _ _ => trivial))
   (case aO => exact (Z9 aH.out))
   (case aS => exact (bz (Z5 aD.out aE.out)))
   (case aL => have := bY.out; omega)
   intro cM cH ho hb hg hat
   rw [← bM.out] at ho; replace aA := A_ (blk_grown (Z2 aA.out) hg (Kd.R_ne aH.out aA.out (by decide))); replace aC := A_ (blk_grown (Z2 aC.out) hg (Kd.R_ne aH.out aC.out (by decide))); replace aK := A_ (Kd.R_over' (Z9 aK.out) (Kd.R_typed (Z9 aH.out)) (by decide) hg); replace HB := A_ hb; have bI := A_ ho; clear aH; clear ho hb hg hat; obtain ⟨b0, b1, bP⟩ := Kd.R_slice bI.out; (first | subst bP | (injection bP with bQ b2 bR; have b3 := bQ.symm; have b4 := bR.symm; clear bQ b2 bR; subst b3; subst b4)); obtain ⟨b5, b6, bT⟩ := Kd.R_slice aK.out; (first | subst bT | (injection bT with bQ b2 bR; have b3 := bQ.symm; have b4 := bR.symm; clear bQ b2 bR; subst b3; subst b4))
   refine hK.out _ _ ⟨(bc aA.out 0).trans rfl, (bc aA.out 1).trans rfl⟩ (fun hHeld => ?_)
   clear hK K
   refine norm_ (a' := ?_) ?_ ?_
   rotate_left
   ·show Act.put _ (some 10) _ = _
    simp only [Act.put, List.setIfInBounds_toArray, List.set_cons_zero, List.set_cons_succ, i64_w, i32_w]
    rfl
   refine pU 8 11 M4 ?_
   refine oU 9 none M5 (fun K hK => ?_)
   have cN : cH.cell? ⟨aQ, 0, none⟩ = some (.slice none 0 0) := (bc aC.out 0).trans rfl; have cI := blk_frozen aC.out 0; have bU := aI.out; have bV := aV.out; have cO : cH.cell? ⟨aQ, 1, none⟩ = some (.slice none 0 0) := (bc aC.out 1).trans rfl; have cJ := blk_frozen aC.out 1; have bW := aI.out; have bX := aV.out
   refine skip_ (w1 := ?_) (by rfl) rfl ?_ ?_
   rotate_left
   ·go_simp
    rfl
   refine hK.out _ _ ⟨(cf aI.out (cf aI.out hHeld.1)), (cf aI.out (cf aI.out hHeld.2))⟩ (fun hHeld => ?_)
   clear hK K
   refine done_ (done_of HT_.out (by kernel_rfl)) ?_
   try go_wp2
   refine bodyPost_ret (results_cell_row rfl _ _ aQ 72 #[.slice b5 a8.length b6, .slice b0 bZ.length b1] (0, 0) _ rfl (bp0 aC.out) Try.underlying72 rfl (by kernel_rfl)) rfl ?_
   exact ⟨_, _, Z7, Z46 aK.out aC.out, Z46 bI.out aC.out, Z5 aD.out aE.out⟩
  ·exact Z50
 ·rw [if_neg c2] at H
  exact absurd H (by simp)
def spec_copyStore.l0 : Nat → List (S72) → List (S72) → Int → Option ((List (S72)))
 | 0, _, _, _ => none
 | k + 1, x0, x3, x4 => if x4 < (x0.length : Int) then (if 0 ≤ x4 then ((spec_copyCell.f ((rd_T72 x0 x4).f0) ((rd_T72 x0 x4).f1)).bind fun aA => (if x3.length < 2932031007402 then (spec_copyStore.l0 k x0 (x3 ++ [(⟨aA.1, aA.2⟩ : S72)]) (wrap64 (x4 + 1))) else (none))) else (none)) else (some x3)
def spec_copyStore.f (k : Nat) (l0 : List (S72)) : Option ((List (S72))) := spec_copyStore.l0 k l0 (([] : List (S72))) 0
theorem spec_copyStore.calls (k : Nat) (A0 : Option Addr) (c0 : Nat) (l0 : List (S72)) (r : List (S72)) (w : World) (bM : Kd.C k72 w A0 l0.length l0) (hc0 : l0.length ≤ c0) (h : spec_copyStore.f k l0 = some r) :
  Calls Try.prog 30 #[.slice A0 l0.length c0] w fun e w' => ∃ bN : Value, e = .returned (bN) ∧ Kd.S k72 72 w' w.heap.size (fun _ => True) bN r ∧ Below w.heap.size w w' := by
 have bR := Try.underlying72; have bT := A_ bM; have bZ := A_ hc0; clear bM hc0; have HB := A_ (Below.refl w.heap.size w); have H := h; unfold spec_copyStore.f at H; clear h; obtain ⟨a6, aU⟩ : ∃ y_ : List (S72), y_ = (([] : List (S72))) := ⟨_, rfl⟩; replace H : (spec_copyStore.l0 k l0 a6 0) = some r := yH aU; have aZ := A_ aU; clear aU; have H' := A_ H; clear H
 go_enter Try.func30, Try.ntmps30
 go_wp2_with (first | ((with_reducible refine gate_dst (N := 5) rfl ?_); refine Kd.S_lit k72 _ 72 ?hg (N := 5) ?hd (xs := ([] : List (S72))) (inner := []) (ok := fun _ => True) (okp := fun _ => True) ?hr ?hp (fun _ hk => hk) trivial (Below.refl _ _) (Nat.le_refl _) (by simp) ?_; (case hd => rfl); (case hg => rfl); (case hr => exact Z36); (case hp => exact (Reps.none _ _)); intro bU w2 a7 hb hg_ hnew_; clear hg_ hnew_; (first | rw [← aZ.out] at a7 | (simp only [Int.reduceToNat] at a7; rw [← aZ.out] at a7)); have a8 := A_ (Kd.S_lower a7 (bz Z1)); replace HB := A_ (bst Z1 hb); clear hb a7))
 go_loopg [3, 4] k (fun kq v3 v4 w' => ∃ (aQ : List (S72)) (aA : Int), v4 = .int .i64 aA ∧ Aside0 (spec_copyStore.l0 kq l0 aQ aA = some r) ∧ Aside0 (kq ≤ k) ∧ Aside0 (Kd.S k72 72 w' w.heap.size (fun _ => True) v3 aQ) ∧ Aside0 (Below w.heap.size w w'))
 case atStart => exact ⟨(a6), (0), Z17, H', ⟨Nat.le_refl _⟩, ⟨Z8 a8.out⟩, ⟨Z1⟩⟩
 case round =>
  clear H'; obtain ⟨aQ, aA, rfl, HA, bO, aC, HB⟩ := hrel
  cases gk with
  | zero => exact absurd HA.out (by simp [spec_copyStore.l0])
  | succ k1 =>
   have H := HA.out; clear HA; simp only [spec_copyStore.l0] at H
   by_cases c4 : aA < (l0.length : Int)
   ·rw [if_pos c4] at H
    have bF := dt c4; clear c4
    by_cases c5 : 0 ≤ aA
    ·rw [if_pos c5] at H
     have bV := dt c5; clear c5; replace H := bS H; obtain ⟨⟨aR, aT⟩, bP, H⟩ := H
     try dsimp only at H
     have A6 := A_ bP; clear bP
     by_cases c7 : aQ.length < 2932031007402
     ·rw [if_pos c7] at H
      have bG := A_ c7; clear c7; obtain ⟨bH, aD⟩ : ∃ y_ : List (S72), y_ = (aQ ++ [(⟨aR, aT⟩ : S72)]) := ⟨_, rfl⟩
      first | rw [← aD, Option.bind_some] at H | rw [← aD] at H
      have a9 := A_ aD; clear aD; have H' := A_ H; clear H; have a0 : 0 ≤ (aA : Int) := odt; have a1 : aA < (l0.length : Int) := odt; obtain ⟨bQ, a2, a3, a4, a5, bI, aE, aG, aH, aI, aJ, aK⟩ := at_T72 bT.out aA a0 a1; cases bI; replace aE := ZC HB.out aE; replace aG := ZC HB.out aG; have aV := A_ aI; have aW := A_ aH; clear aI aH; have aX := A_ aK; have aY := A_ aJ; clear aK aJ; replace a0 := eq_true a0; replace a1 := eq_true a1
      go_wp2_with (first | ((with_reducible refine gate_callee (f := 58) rfl ?_); refine gL 17 Try.func58 #[.agg #[.slice a2 ((rd_T72 l0 aA).f0).length a3, .slice a4 ((rd_T72 l0 aA).f1).length a5]] ?_; (with_reducible refine (spec_copyCell.calls _ _ ((rd_T72 l0 aA).f0) _ _ ((rd_T72 l0 aA).f1) aR aT _ ?s1 aW.out ?s3 aY.out A6.out).mono ?_); (case s1 => exact Z4 aV.out); (case s3 => exact Z4 aX.out); rintro e w8 ⟨bW, bX, rfl, bJ, ho1, hb⟩; refine ⟨_, rfl, ?_⟩; replace aC := A_ (Kd.S_mono (Kd.S_told (Kd.S_told (Kd.S_old (Z8 aC.out) hb) (Kd.R_base bJ)) (Kd.R_base ho1)) (fun _ h_ => h_.1)); have aM := A_ (Kd.R_lower bJ (bz Z1)); have aN := A_ (Kd.R_lower ho1 (bz Z1)); replace HB := A_ (bst Z1 hb); (try clear hb); (try clear bJ); (try clear ho1); obtain ⟨bA, bB, bK⟩ := Kd.R_slice aM.out; subst bK; obtain ⟨bC, bD, bL⟩ := Kd.R_slice aN.out; subst bL) | ((with_reducible refine gate_builtin (b := .append) (xs := #[.tmp 12, .tmp 18]) rfl ?_); at_builtin; refine Kd.S_append k72 (w0 := w) w.heap.size rfl (.tmp 12) (.tmp 18) 23 72 (.agg #[(.slice none 0 0), (.slice none 0 0)]) 48 rfl Try.underlying23 info72 rfl (by decide) (by omega) u3 aQ (⟨aR, aT⟩ : S72) [.slice bA aR.length bB, .slice bC aT.length bD] (fun _ => True) (fun k_ => some k_ = (.slice bA aR.length bB : Value).ownBlock ∨ some k_ = (.slice bC aT.length bD : Value).ownBlock) rfl rfl ?aP (fun k_ hk_ => hk_.elim (fun h_ => ((Rm (ok' := fun k_ => ((fun _ => True)) k_ ∧ some k_ ≠ (u3 : Value).ownBlock) (Kd.R_apart' (aM.out) (Kd.S_typed aC.out) (by decide)) (fun k_ hk => ⟨trivial, hk.2⟩))).1 k_ h_.symm) (fun h_ => ((Rm (ok' := fun k_ => ((fun _ => True)) k_ ∧ some k_ ≠ (u3 : Value).ownBlock) (Kd.R_apart' (aN.out) (Kd.S_typed aC.out) (by decide)) (fun k_ hk => ⟨trivial, hk.2⟩))).1 k_ h_.symm)) ?aF ?aO ?aB ?aS ?aL ?_; (case aP => exact k72_mkM _ _ _ (⟨aR, aT⟩ : S72) (Rm (Kd.R_tight rfl (Rm (ok' := fun k_ => ((fun _ => True)) k_ ∧ some k_ ≠ (u3 : Value).ownBlock) (Kd.R_apart' (aM.out) (Kd.S_typed aC.out) (by decide)) (fun k_ hk => ⟨trivial, hk.2⟩))) (fun _ h_ => Or.inl h_)) (Rm (Kd.R_tight rfl (Rm (ok' := fun k_ => ((fun _ => True)) k_ ∧ some k_ ≠ (u3 : Value).ownBlock) (Kd.R_apart' (aN.out) (Kd.S_typed aC.out) (by decide)) (fun k_ hk => ⟨trivial, hk.2⟩))) (fun _ h_ => Or.inr (h_)))); (case aB => exact Z1); (case aF => exact (fun _ _ => trivial)); (case aO => exact (by (with_reducible repeat (first | apply Kd.S_alloc | apply Kd.S_drewN | apply Kd.S_drew)); exact Kd.S_mono aC.out (fun k_ hk => ⟨trivial, fun e_ => e_.elim (fun h_ => hk.1.2 h_) (fun h_ => hk.2 h_)⟩))); (case aS => exact (bz Z1)); (case aL => have := bG.out; omega); intro bY w9 ho hb hg hat; rw [← a9.out] at ho; replace HB := A_ hb; have bE := A_ ho; clear aC; clear aM; clear aN; clear ho hb hg hat))
      go_roundg k1
      case measure => have := bO.out; omega
      case rel => exact ⟨(bH), (wrap64 (aA + 1)), Z17, H', ⟨by have := bO.out; omega⟩, ⟨Z8 bE.out⟩, ⟨Z1⟩⟩
     ·rw [if_neg c7] at H
      exact absurd H (by simp)
    ·rw [if_neg c5] at H
     exact absurd H (by simp)
   ·rw [if_neg c4] at H
    have bF := df c4; clear c4; obtain rfl := Option.some.inj H
    go_wp2
    go_ret
    exact ⟨_, Z7, Z8 aC.out, Z1⟩
end Go.Proofs.Ytgbbcebjgpoioaa.PFnExactHistRedo
