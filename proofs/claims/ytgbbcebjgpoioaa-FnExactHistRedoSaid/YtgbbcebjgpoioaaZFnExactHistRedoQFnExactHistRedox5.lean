/- Walks (lines of the print; no condition). -/
import Derived.Test.YtgbbcebjgpoioaaZFnExactHistRedoDeep
import Derived.Test.YtgbbcebjgpoioaaZFnExactHistRedoQFnExactHistRedox4
namespace Go.Proofs.Ytgbbcebjgpoioaa.PFnExactHistRedo
open Go.RowKit Go.Proofs.YtgbbcebjgpoioaaW.PrintWords Go.Proofs.YtgbbcebjgpoioaaW.PrintLast Go.Proofs.YtgbbcebjgpoioaaW.PrintMore
attribute [local go_sem] max2_int min2_int max_two min_two max_three min_three max_four min_four
set_option linter.unusedVariables false
set_option linter.unusedSimpArgs false
set_option maxHeartbeats 8000000
set_option maxRecDepth 100000
def impl_storesOk.l0 : Nat → List (List (S72)) → Int → Int → Option (Bool)
 | 0, _, _, _ => none
 | k + 1, x5, x6, x7 => if x7 < x6 then (if 0 ≤ x7 then (if x7 < (x5.length : Int) then ((impl_StoreOk.f k (rd_L7 x5 x7)).bind fun aA => (if aA = true then (impl_storesOk.l0 k x5 x6 (wrap64 (x7 + 1))) else (some false))) else (none)) else (none)) else (some true)
def impl_storesOk.f (k : Nat) (l0 : List (List (S72))) : Option (Bool) := impl_storesOk.l0 k l0 (l0.length : Int) 0
theorem impl_storesOk.calls (k : Nat) (A0 : Option Addr) (c0 : Nat) (l0 : List (List (S72))) (r : Bool) (w : World) (aN : Kd.C (Kd.slice 72 k72) w A0 l0.length l0) (hc0 : l0.length ≤ c0) (h : impl_storesOk.f k l0 = some r) :
  Calls Try.prog 35 #[.slice A0 l0.length c0] w fun e w' => e = .returned (.bool r) ∧ Below w.heap.size w w' := by
 have aO := A_ aN; have aT := A_ hc0; clear aN hc0; have HB := A_ (Below.refl w.heap.size w); have H := h; unfold impl_storesOk.f at H; clear h; have H' := A_ H; clear H
 go_enter Try.func35, Try.ntmps35
 go_wp2
 go_loopg [7] k (fun kq v7 w' => ∃ (x7_1 : Int), v7 = .int .i64 x7_1 ∧ Aside0 (impl_storesOk.l0 kq l0 (l0.length : Int) x7_1 = some r) ∧ Aside0 (kq ≤ k) ∧ Aside0 (Below w.heap.size w w'))
 case atStart => exact ⟨(0), Z17, H', ⟨Nat.le_refl _⟩, ⟨Z1⟩⟩
 case round =>
  clear H'; obtain ⟨x7_1, rfl, HA, aP, HB⟩ := hrel
  cases gk with
  | zero => exact absurd HA.out (by simp [impl_storesOk.l0])
  | succ k1 =>
   have H := HA.out; clear HA; simp only [impl_storesOk.l0] at H
   by_cases c2 : x7_1 < (l0.length : Int)
   ·rw [if_pos c2] at H
    have aL := dt c2; clear c2
    by_cases c3 : 0 ≤ x7_1
    ·rw [if_pos c3] at H
     have aR := dt c3; clear c3
     by_cases c4 : x7_1 < (l0.length : Int)
     ·rw [if_pos c4] at H
      have aS := dt c4; clear c4; replace H := bS H; obtain ⟨aM, aQ, H⟩ := H
      try dsimp only at H
      have A5 := A_ aQ; clear aQ
      by_cases c6 : aM = true
      ·subst c6
       rw [if_pos rfl] at H; have H' := A_ H; clear H; have aF : 0 ≤ (x7_1 : Int) := odt; have aG : x7_1 < (l0.length : Int) := odt; obtain ⟨aK, aH, aI, aJ, aA, aB, aC⟩ := at_L7 aO.out x7_1 aF aG; cases aJ; replace aA := ZC HB.out aA; have aD := A_ aC; have aE := A_ aB; clear aC aB; replace aF := eq_true aF; replace aG := eq_true aG
       go_wp2_with (first | ((with_reducible refine gate_callee (f := 34) rfl ?_); refine gL 12 Try.func34 #[.slice aH (rd_L7 l0 x7_1).length aI] ?_; (with_reducible refine (impl_StoreOk.calls k1 _ _ (rd_L7 l0 x7_1) true _ ?s1 aE.out A5.out).mono ?_); (case s1 => exact Z4 aD.out); rintro e w7 ⟨rfl, hb⟩; refine ⟨_, rfl, ?_⟩; replace HB := A_ (bst Z1 hb); (try clear hb)))
       go_roundg k1
       case measure => have := aP.out; omega
       case rel => exact ⟨(wrap64 (x7_1 + 1)), Z17, H', ⟨by have := aP.out; omega⟩, ⟨Z1⟩⟩
      ·replace c6 := Bool.eq_false_iff.mpr c6
       subst c6; rw [if_neg (show ¬ (false = true) by decide)] at H; obtain rfl := Option.some.inj H; have aF : 0 ≤ (x7_1 : Int) := odt; have aG : x7_1 < (l0.length : Int) := odt; obtain ⟨aK, aH, aI, aJ, aA, aB, aC⟩ := at_L7 aO.out x7_1 aF aG; cases aJ; replace aA := ZC HB.out aA; have aD := A_ aC; have aE := A_ aB; clear aC aB; replace aF := eq_true aF; replace aG := eq_true aG
       go_wp2_with (first | ((with_reducible refine gate_callee (f := 34) rfl ?_); refine gL 12 Try.func34 #[.slice aH (rd_L7 l0 x7_1).length aI] ?_; (with_reducible refine (impl_StoreOk.calls k1 _ _ (rd_L7 l0 x7_1) false _ ?s1 aE.out A5.out).mono ?_); (case s1 => exact Z4 aD.out); rintro e w8 ⟨rfl, hb⟩; refine ⟨_, rfl, ?_⟩; replace HB := A_ (bst Z1 hb); (try clear hb)))
       go_ret
       exact ⟨Z7, Z1⟩
     ·exact Z45
    ·exact Z50
   ·rw [if_neg c2] at H
    have aL := df c2; clear c2; obtain rfl := Option.some.inj H
    go_wp2
    go_ret
    exact ⟨Z7, Z1⟩
def impl_HistOk.f (k : Nat) (aC : List (S72)) (aA : List (List (S72))) (aB : List (List (S72))) : Option (Bool) := (impl_StoreOk.f k aC).bind fun aD => (if aD = true then ((impl_storesOk.f k aA).bind fun aE => (if aE = true then ((impl_storesOk.f k aB).bind fun aF => (if aF = true then (some (decide ((wrap64 ((aA.length : Int) + (aB.length : Int))) ≤ 6))) else (some false))) else (some false))) else (some false))
theorem impl_HistOk.calls (k : Nat) (aG : Option Addr) (aH : Nat) (aC : List (S72)) (aK : Option Addr) (aL : Nat) (aD : List (List (S72))) (aM : Option Addr) (aN : Nat) (aE : List (List (S72))) (r : Bool) (w : World) (aR : Kd.C k72 w aG aC.length aC) (aS : aC.length ≤ aH) (aT : Kd.C (Kd.slice 72 k72) w aK aD.length aD) (aU : aD.length ≤ aL) (aV : Kd.C (Kd.slice 72 k72) w aM aE.length aE) (aW : aE.length ≤ aN) (h : impl_HistOk.f k aC aD aE = some r) :
  Calls Try.prog 12 #[.agg #[.slice aG aC.length aH, .slice aK aD.length aL, .slice aM aE.length aN]] w fun e w' => e = .returned (.bool r) ∧ Below w.heap.size w w' := by
 have cU := Try.underlying26; have aI := A_ aR; have aJ := A_ aS; clear aR aS; have aO := A_ aT; have aP := A_ aU; clear aT aU; have aX := A_ aV; have aY := A_ aW; clear aV aW; have HB := A_ (Below.refl w.heap.size w); have H := h; unfold impl_HistOk.f at H; clear h; replace H := bS H; obtain ⟨cI, cR, H⟩ := H
 try dsimp only at H
 have A2 := A_ cR; clear cR
 by_cases c3 : cI = true
 ·subst c3
  rw [if_pos rfl] at H; replace H := bS H; obtain ⟨cJ, cS, H⟩ := H
  try dsimp only at H
  have A4 := A_ cS; clear cS
  by_cases c5 : cJ = true
  ·subst c5
   rw [if_pos rfl] at H; replace H := bS H; obtain ⟨cK, cT, H⟩ := H
   try dsimp only at H
   have A6 := A_ cT; clear cT
   by_cases c7 : cK = true
   ·subst c7
    rw [if_pos rfl] at H; obtain rfl := Option.some.inj H
    go_enter Try.func12, Try.ntmps12
    go_wp2_with (first | ((with_reducible refine gate_dst (N := 1) rfl ?_); (try (refine gate_guard (by rfl) ?_; dsimp only)); refine be (cs := #[.slice aG aC.length aH, .slice aK aD.length aL, .slice aM aE.length aN]) (t := 26) ?_; intro aQ hg w8 hbox hb; have aA := A_ hbox; have aF := A_ (gl hg (bz Z1)); have aB := aF; replace HB := A_ (bst Z1 hb); clear hb hbox hg; obtain ⟨cL, cM, cN, cO, cP, cQ⟩ := C3 aA.out) | ((with_reducible refine gate_callee (f := 34) rfl ?_); refine gL 5 Try.func34 #[.slice aG aC.length aH] ?_; (with_reducible refine (impl_StoreOk.calls k _ _ aC true _ ?s1 aJ.out A2.out).mono ?_); (case s1 => exact Z4 aI.out); rintro e cV ⟨rfl, hb⟩; refine ⟨_, rfl, ?_⟩; replace aA := A_ (bb (Z2 aA.out) hb); replace HB := A_ (bst (Z3 aB.out) hb); (try clear hb); obtain ⟨aZ, a0, a1, a2, a3, a4⟩ := C3 aA.out) | (go_at_call 35; (with_reducible refine (impl_storesOk.calls k _ _ aD true _ ?s1 aP.out A4.out).mono ?_); (case s1 => exact Z4 aO.out); rintro e cW ⟨rfl, hb⟩; replace aA := A_ (bb (Z2 aA.out) hb); replace HB := A_ (bst (Z3 aB.out) hb); (try clear hb); obtain ⟨a5, a6, a7, a8, a9, bA⟩ := C3 aA.out) | (go_at_call 35; (with_reducible refine (impl_storesOk.calls k _ _ aE true _ ?s1 aY.out A6.out).mono ?_); (case s1 => exact Z4 aX.out); rintro e cX ⟨rfl, hb⟩; replace aA := A_ (bb (Z2 aA.out) hb); replace HB := A_ (bst (Z3 aB.out) hb); (try clear hb); obtain ⟨bB, bC, bD, bE, bF, bG⟩ := C3 aA.out))
    go_ret
    exact ⟨Z7, Z3 aB.out⟩
   ·replace c7 := Bool.eq_false_iff.mpr c7
    subst c7; rw [if_neg (show ¬ (false = true) by decide)] at H; obtain rfl := Option.some.inj H
    go_enter Try.func12, Try.ntmps12
    go_wp2_with (first | ((with_reducible refine gate_dst (N := 1) rfl ?_); (try (refine gate_guard (by rfl) ?_; dsimp only)); refine be (cs := #[.slice aG aC.length aH, .slice aK aD.length aL, .slice aM aE.length aN]) (t := 26) ?_; intro aQ hg cY hbox hb; have aA := A_ hbox; have aF := A_ (gl hg (bz Z1)); have aB := aF; replace HB := A_ (bst Z1 hb); clear hb hbox hg; obtain ⟨bH, bI, bJ, bK, bL, bM⟩ := C3 aA.out) | ((with_reducible refine gate_callee (f := 34) rfl ?_); refine gL 5 Try.func34 #[.slice aG aC.length aH] ?_; (with_reducible refine (impl_StoreOk.calls k _ _ aC true _ ?s1 aJ.out A2.out).mono ?_); (case s1 => exact Z4 aI.out); rintro e cZ ⟨rfl, hb⟩; refine ⟨_, rfl, ?_⟩; replace aA := A_ (bb (Z2 aA.out) hb); replace HB := A_ (bst (Z3 aB.out) hb); (try clear hb); obtain ⟨bN, bO, bP, bQ, bR, bT⟩ := C3 aA.out) | (go_at_call 35; (with_reducible refine (impl_storesOk.calls k _ _ aD true _ ?s1 aP.out A4.out).mono ?_); (case s1 => exact Z4 aO.out); rintro e dA ⟨rfl, hb⟩; replace aA := A_ (bb (Z2 aA.out) hb); replace HB := A_ (bst (Z3 aB.out) hb); (try clear hb); obtain ⟨bU, bV, bW, bX, bY, bZ⟩ := C3 aA.out) | (go_at_call 35; (with_reducible refine (impl_storesOk.calls k _ _ aE false _ ?s1 aY.out A6.out).mono ?_); (case s1 => exact Z4 aX.out); rintro e dB ⟨rfl, hb⟩; replace aA := A_ (bb (Z2 aA.out) hb); replace HB := A_ (bst (Z3 aB.out) hb); (try clear hb)))
    go_ret
    exact ⟨Z7, Z3 aB.out⟩
  ·replace c5 := Bool.eq_false_iff.mpr c5
   subst c5; rw [if_neg (show ¬ (false = true) by decide)] at H; obtain rfl := Option.some.inj H
   go_enter Try.func12, Try.ntmps12
   go_wp2_with (first | ((with_reducible refine gate_dst (N := 1) rfl ?_); (try (refine gate_guard (by rfl) ?_; dsimp only)); refine be (cs := #[.slice aG aC.length aH, .slice aK aD.length aL, .slice aM aE.length aN]) (t := 26) ?_; intro aQ hg dC hbox hb; have aA := A_ hbox; have aF := A_ (gl hg (bz Z1)); have aB := aF; replace HB := A_ (bst Z1 hb); clear hb hbox hg; obtain ⟨b0, b1, b2, b3, b4, b5⟩ := C3 aA.out) | ((with_reducible refine gate_callee (f := 34) rfl ?_); refine gL 5 Try.func34 #[.slice aG aC.length aH] ?_; (with_reducible refine (impl_StoreOk.calls k _ _ aC true _ ?s1 aJ.out A2.out).mono ?_); (case s1 => exact Z4 aI.out); rintro e dD ⟨rfl, hb⟩; refine ⟨_, rfl, ?_⟩; replace aA := A_ (bb (Z2 aA.out) hb); replace HB := A_ (bst (Z3 aB.out) hb); (try clear hb); obtain ⟨b6, b7, b8, b9, cA, cB⟩ := C3 aA.out) | (go_at_call 35; (with_reducible refine (impl_storesOk.calls k _ _ aD false _ ?s1 aP.out A4.out).mono ?_); (case s1 => exact Z4 aO.out); rintro e dE ⟨rfl, hb⟩; replace aA := A_ (bb (Z2 aA.out) hb); replace HB := A_ (bst (Z3 aB.out) hb); (try clear hb)))
   go_ret
   exact ⟨Z7, Z3 aB.out⟩
 ·replace c3 := Bool.eq_false_iff.mpr c3
  subst c3; rw [if_neg (show ¬ (false = true) by decide)] at H; obtain rfl := Option.some.inj H
  go_enter Try.func12, Try.ntmps12
  go_wp2_with (first | ((with_reducible refine gate_dst (N := 1) rfl ?_); (try (refine gate_guard (by rfl) ?_; dsimp only)); refine be (cs := #[.slice aG aC.length aH, .slice aK aD.length aL, .slice aM aE.length aN]) (t := 26) ?_; intro aQ hg dF hbox hb; have aA := A_ hbox; have aF := A_ (gl hg (bz Z1)); have aB := aF; replace HB := A_ (bst Z1 hb); clear hb hbox hg; obtain ⟨cC, cD, cE, cF, cG, cH⟩ := C3 aA.out) | ((with_reducible refine gate_callee (f := 34) rfl ?_); refine gL 5 Try.func34 #[.slice aG aC.length aH] ?_; (with_reducible refine (impl_StoreOk.calls k _ _ aC false _ ?s1 aJ.out A2.out).mono ?_); (case s1 => exact Z4 aI.out); rintro e dG ⟨rfl, hb⟩; refine ⟨_, rfl, ?_⟩; replace aA := A_ (bb (Z2 aA.out) hb); replace HB := A_ (bst (Z3 aB.out) hb); (try clear hb)))
  go_ret
  exact ⟨Z7, Z3 aB.out⟩
def impl_placeCopy.f (l0 : List (S96)) : Option ((List (S96))) := if ([] : List (S96)).length + l0.length < 8796093022208 then (some (([] : List (S96)) ++ l0)) else (none)
theorem impl_placeCopy.calls (A0 : Option Addr) (c0 : Nat) (l0 : List (S96)) (r : List (S96)) (w : World) (aH : Kd.C k96 w A0 l0.length l0) (hc0 : l0.length ≤ c0) (h : impl_placeCopy.f l0 = some r) :
  Calls Try.prog 96 #[.slice A0 l0.length c0] w fun e w' => ∃ aI : Value, e = .returned (aI) ∧ Kd.R k96 96 w' w.heap.size (fun _ => True) aI r ∧ Below w.heap.size w w' := by
 have aJ := A_ aH; have aM := A_ hc0; clear aH hc0; have HB := A_ (Below.refl w.heap.size w); have H := h; unfold impl_placeCopy.f at H; clear h
 by_cases c2 : ([] : List (S96)).length + l0.length < 8796093022208
 ·rw [if_pos c2] at H
  have aE := A_ c2; clear c2; obtain ⟨aG, aA⟩ : ∃ y_ : List (S96), y_ = (([] : List (S96)) ++ l0) := ⟨_, rfl⟩; replace H : (some aG) = some r := yH aA; have aC := A_ aA; clear aA; obtain rfl := Option.some.inj H
  go_enter Try.func96, Try.ntmps96
  go_wp2_with (first | ((with_reducible refine gate_builtin (b := .append) (xs := #[.const (.slice none 0 0), .tmp 3]) rfl ?_); at_builtin; refine Kd.R_append_rows k96 (w0 := w) w.heap.size rfl (.const (.slice none 0 0)) (.tmp 3) 67 96 (.agg #[(.int .i64 0), (.int .i64 0)]) 16 rfl Try.underlying67 info96 rfl (by decide) (by omega) (.slice none 0 0) ([] : List (S96)) l0 _ _ _ (fun _ => True) (fun _ => False) rfl rfl ?aO ?aR (fun _ _ h => h) (fun _ h => h.elim) ?aF ?aB ?aS ?aL ?_; (case aR => repeat (first | exact aJ.out | (with_reducible refine Kd.C_alloc ?_ _) | (with_reducible refine Kd.C_drewN ?_ _) | (with_reducible refine Kd.C_drew ?_))); (case aB => exact Z1); (case aF => exact (fun _ _ => trivial)); (case aO => exact ((Kd.R_nil _ _ _ _ (fun _ => True)))); (case aS => exact (bz Z1)); (case aL => have := aE.out; omega); intro aK w3 ho hb hg hat; rw [← aC.out] at ho; replace HB := A_ hb; have aD := A_ ho; clear ho hb hg hat))
  go_ret
  exact ⟨_, Z7, Z9 aD.out, Z1⟩
 ·rw [if_neg c2] at H
  exact absurd H (by simp)
def impl_valsCopy.f (l0 : List (S98)) : Option ((List (S98))) := if ([] : List (S98)).length + l0.length < 4398046511104 then (some (([] : List (S98)) ++ l0)) else (none)
theorem impl_valsCopy.calls (A0 : Option Addr) (c0 : Nat) (l0 : List (S98)) (r : List (S98)) (w : World) (aH : Kd.C k98 w A0 l0.length l0) (hc0 : l0.length ≤ c0) (h : impl_valsCopy.f l0 = some r) :
  Calls Try.prog 97 #[.slice A0 l0.length c0] w fun e w' => ∃ aI : Value, e = .returned (aI) ∧ Kd.R k98 98 w' w.heap.size (fun _ => True) aI r ∧ Below w.heap.size w w' := by
 have aJ := A_ aH; have aM := A_ hc0; clear aH hc0; have HB := A_ (Below.refl w.heap.size w); have H := h; unfold impl_valsCopy.f at H; clear h
 by_cases c2 : ([] : List (S98)).length + l0.length < 4398046511104
 ·rw [if_pos c2] at H
  have aE := A_ c2; clear c2; obtain ⟨aG, aA⟩ : ∃ y_ : List (S98), y_ = (([] : List (S98)) ++ l0) := ⟨_, rfl⟩; replace H : (some aG) = some r := yH aA; have aC := A_ aA; clear aA; obtain rfl := Option.some.inj H
  go_enter Try.func97, Try.ntmps97
  go_wp2_with (first | ((with_reducible refine gate_builtin (b := .append) (xs := #[.const (.slice none 0 0), .tmp 3]) rfl ?_); at_builtin; refine Kd.R_append_rows k98 (w0 := w) w.heap.size rfl (.const (.slice none 0 0)) (.tmp 3) 69 98 (.agg #[(.int .i64 0), (.int .i64 0), (.string ⟨#[]⟩)]) 32 rfl Try.underlying69 info98 rfl (by decide) (by omega) (.slice none 0 0) ([] : List (S98)) l0 _ _ _ (fun _ => True) (fun _ => False) rfl rfl ?aO ?aR (fun _ _ h => h) (fun _ h => h.elim) ?aF ?aB ?aS ?aL ?_; (case aR => repeat (first | exact aJ.out | (with_reducible refine Kd.C_alloc ?_ _) | (with_reducible refine Kd.C_drewN ?_ _) | (with_reducible refine Kd.C_drew ?_))); (case aB => exact Z1); (case aF => exact (fun _ _ => trivial)); (case aO => exact ((Kd.R_nil _ _ _ _ (fun _ => True)))); (case aS => exact (bz Z1)); (case aL => have := aE.out; omega); intro aK w3 ho hb hg hat; rw [← aC.out] at ho; replace HB := A_ hb; have aD := A_ ho; clear ho hb hg hat))
  go_ret
  exact ⟨_, Z7, Z9 aD.out, Z1⟩
 ·rw [if_neg c2] at H
  exact absurd H (by simp)
def impl_cellCopy.f (aA : List (S96)) (aB : List (S98)) : Option ((List (S96)) × (List (S98))) := (impl_placeCopy.f aA).bind fun aC => ((impl_valsCopy.f aB).bind fun aD => (some (aC, aD)))
def impl_cellCopy.T1 : Bool × List (List Nat × List Nat) := (true, [([], []), ([0], [0]), ([1], [1]), ([], []), ([3], [3]), ([4, 2], [4]), ([2, 5], [2, 5]), ([6, 5, 0, 1, 2, 3, 4, 5, 6], [6])])
def impl_cellCopy.B1 : List Nat := [0, 1, 3, 0, 8, 31, 63, 127]
theorem impl_cellCopy.tab1 : rtab .any (opsOf Try.f80 1) = impl_cellCopy.T1 := by kernel_rfl
theorem impl_cellCopy.bits1 : waitsOk impl_cellCopy.T1.2 impl_cellCopy.B1 = true := by kernel_rfl
theorem impl_cellCopy.calls (aL : Option Addr) (aM : Nat) (aF : List (S96)) (aN : Option Addr) (aO : Nat) (aG : List (S98)) (r1 : List (S96)) (r2 : List (S98)) (w : World) (aP : Kd.C k96 w aL aF.length aF) (aQ : aF.length ≤ aM) (aR : Kd.C k98 w aN aG.length aG) (aS : aG.length ≤ aO) (h : impl_cellCopy.f aF aG = some (r1, r2)) :
  Calls Try.prog 80 #[.agg #[.slice aL aF.length aM, .slice aN aG.length aO]] w fun e w' => ∃ bF bG : Value, e = .returned (.agg #[bF, bG]) ∧ Kd.R k96 96 w' w.heap.size (fun _ => True) bF r1 ∧ Kd.R k98 98 w' w.heap.size (fun _ => True) bG r2 ∧ Below w.heap.size w w' := by
 have bM := Try.underlying72; have aU := A_ aP; have aV := A_ aQ; clear aP aQ; have aW := A_ aR; have aX := A_ aS; clear aR aS; have HB := A_ (Below.refl w.heap.size w); have H := h; unfold impl_cellCopy.f at H; clear h; replace H := bS H; obtain ⟨aY, bH, H⟩ := H
 try dsimp only at H
 have A2 := A_ bH; clear bH; replace H := bS H; obtain ⟨aZ, bI, H⟩ := H
 try dsimp only at H
 have A3 := A_ bI; clear bI; simp only [Option.some.injEq, Prod.mk.injEq] at H; obtain ⟨rfl, rfl⟩ := H
 go_enter Try.func80, Try.ntmps80
 try go_wp2_with (first | ((with_reducible refine gate_dst (N := 1) rfl ?_); refine be (cs := #[.slice aL aF.length aM, .slice aN aG.length aO]) (t := 72) ?_; intro aJ hg w4 hbox hb; have aA := A_ hbox; have a0 := A_ (gl hg (bz Z1)); have aD := a0; replace HB := A_ (bst Z1 hb); clear hb hbox hg) | ((with_reducible refine gate_dst (N := 2) rfl ?_); refine be (cs := #[.slice none 0 0, .slice none 0 0]) (t := 72) ?_; intro aH hg w5 hbox hb; have aC := A_ hbox; have a1 := A_ (gl hg (bz (Z3 aD.out))); have aI := a1; replace HB := A_ (bst (Z3 aD.out) hb); have aB := A_ ((by rw [hg]; exact nl (blk_lt (Z2 aA.out)) : aJ ≠ aH)); have aE := A_ ((by rw [hg]; exact Nat.ne_of_gt (blk_lt (Z2 aA.out)) : aH ≠ aJ)); replace aA := A_ (bb (Z2 aA.out) hb); clear hb hbox hg))
 replace aA := A_ (blk_drew aA.out); replace aC := A_ (blk_drew aC.out); replace HB := A_ (below_drew1 HB.out)
 refine start_ (n := 8) (S := fun w' => w'.cell? ⟨aJ, 0, none⟩ = some (.slice aL aF.length aM) ∧ w'.cell? ⟨aJ, 1, none⟩ = some (.slice aN aG.length aO)) (ds := []) #[F,F,F,F,F,F,F,F] (by kernel_rfl) rfl rfl ⟨(bc aA.out 0).trans rfl, (bc aA.out 1).trans rfl⟩ (fun hHeld => ?_); refine with_tabW impl_cellCopy.tab1 impl_cellCopy.bits1 (fun HT_ HW_ => ?_)
 generalize w5.drew = w6 at aA aC HB hHeld ⊢; refine pU 0 3 #[T,F,F,F,F,F,F,F] ?_; refine pU 3 6 #[T,F,F,T,F,F,F,F] ?_; refine tU 1 4 #[T,T,F,T,F,F,F,F] ?_ (y := Z44); refine tU 4 7 #[T,T,F,T,T,F,F,F] ?_ (y := Z44)
 refine oU 2 (some 5) #[T,T,T,T,T,F,F,F] (fun K hK => ?_)
 refine goes_ Try.func96 (by kernel_rfl) rfl #[.slice aL aF.length aM] (by rfl) rfl rfl Z16 ?_
 with_reducible refine (impl_placeCopy.calls _ _ aF aY _ ?s1 ?s2 A2.out).mono ?_
 (case s1 => exact Z4 aU.out)
 (case s2 => exact aV.out)
 rintro e w7 ⟨bN, rfl, a2, hb⟩
 refine ⟨_, rfl, ?_⟩
 have aK := A_ (Kd.R_lower a2 (bz (Z5 aD.out aI.out))); replace aA := A_ (bb (Z2 aA.out) hb); replace aC := A_ (bb (Z2 aC.out) hb); replace HB := A_ (bst (Z5 aD.out aI.out) hb); (try clear hb); (try clear bO); (try clear hk); (try clear hi); (try clear a2)
 refine hK.out _ _ ⟨(bc aA.out 0).trans rfl, (bc aA.out 1).trans rfl⟩ (fun hHeld => ?_)
 clear hK K
 refine norm_ (a' := ?_) ?_ ?_
 rotate_left
 ·show Act.put _ (some 5) _ = _
  simp only [Act.put, List.setIfInBounds_toArray, List.set_cons_zero, List.set_cons_succ, i64_w, i32_w]
  rfl
 refine oU 5 (some 8) #[T,T,T,T,T,T,F,F] (fun K hK => ?_)
 refine goes_ Try.func97 (by kernel_rfl) rfl #[.slice aN aG.length aO] (by rfl) rfl rfl Z16 ?_
 with_reducible refine (impl_valsCopy.calls _ _ aG aZ _ ?s1 ?s2 A3.out).mono ?_
 (case s1 => exact Z4 aW.out)
 (case s2 => exact aX.out)
 rintro e w8 ⟨bP, rfl, a2, hb⟩
 refine ⟨_, rfl, ?_⟩
 replace aK := A_ (Rbl (Z9 aK.out) hb); have aT := A_ (Kd.R_lower a2 (bz (Z5 aD.out aI.out))); replace aA := A_ (bb (Z2 aA.out) hb); replace aC := A_ (bb (Z2 aC.out) hb); replace HB := A_ (bst (Z5 aD.out aI.out) hb); (try clear hb); (try clear bO); (try clear hk); (try clear hi); (try clear a2); obtain ⟨bQ, bR, bJ⟩ := Kd.R_slice aT.out; (first | subst bJ | (injection bJ with a3 bA a4; have bB := a3.symm; have bC := a4.symm; clear a3 bA a4; subst bB; subst bC)); obtain ⟨bD, bE, a5⟩ := Kd.R_slice aK.out; (first | subst a5 | (injection a5 with a3 bA a4; have bB := a3.symm; have bC := a4.symm; clear a3 bA a4; subst bB; subst bC))
 refine hK.out _ _ ⟨(bc aA.out 0).trans rfl, (bc aA.out 1).trans rfl⟩ (fun hHeld => ?_)
 clear hK K
 refine norm_ (a' := ?_) ?_ ?_
 rotate_left
 ·show Act.put _ (some 8) _ = _
  simp only [Act.put, List.setIfInBounds_toArray, List.set_cons_zero, List.set_cons_succ, i64_w, i32_w]
  rfl
 refine pU 6 9 #[T,T,T,T,T,T,T,F] ?_
 refine oU 7 none #[T,T,T,T,T,T,T,T] (fun K hK => ?_)
 have bT : w8.cell? ⟨aH, 0, none⟩ = some (.slice none 0 0) := (bc aC.out 0).trans rfl; have bK := blk_frozen aC.out 0; have a6 := aB.out; have a7 := aE.out; have bU : w8.cell? ⟨aH, 1, none⟩ = some (.slice none 0 0) := (bc aC.out 1).trans rfl; have bL := blk_frozen aC.out 1; have a8 := aB.out; have a9 := aE.out
 refine skip_ (w1 := ?_) (by rfl) rfl ?_ ?_
 rotate_left
 ·go_simp
  rfl
 refine hK.out _ _ ⟨(cf aB.out (cf aB.out hHeld.1)), (cf aB.out (cf aB.out hHeld.2))⟩ (fun hHeld => ?_)
 clear hK K
 refine done_ (done_of HT_.out (by kernel_rfl)) ?_
 try go_wp2
 refine bodyPost_ret (results_cell_row rfl _ _ aH 72 #[.slice bD aY.length bE, .slice bQ aZ.length bR] (0, 0) _ rfl (bp0 aC.out) Try.underlying72 rfl (by kernel_rfl)) rfl ?_
 exact ⟨_, _, Z7, Z46 aK.out aC.out, Z46 aT.out aC.out, Z5 aD.out aI.out⟩
def impl_storeCopy.l0 : Nat → List (S72) → List (S72) → Int → Int → Option ((List (S72)))
 | 0, _, _, _, _ => none
 | k + 1, x3, x6, x7, x8 => if x8 < x7 then (if 0 ≤ x8 then (if x8 < (x6.length : Int) then ((impl_cellCopy.f ((rd_T72 x6 x8).f0) ((rd_T72 x6 x8).f1)).bind fun aA => (if x3.length < 2932031007402 then (impl_storeCopy.l0 k (x3 ++ [(⟨aA.1, aA.2⟩ : S72)]) x6 x7 (wrap64 (x8 + 1))) else (none))) else (none)) else (none)) else (some x3)
def impl_storeCopy.f (k : Nat) (l0 : List (S72)) : Option ((List (S72))) := impl_storeCopy.l0 k ([] : List (S72)) l0 (l0.length : Int) 0
theorem impl_storeCopy.calls (k : Nat) (A0 : Option Addr) (c0 : Nat) (l0 : List (S72)) (r : List (S72)) (w : World) (bP : Kd.C k72 w A0 l0.length l0) (hc0 : l0.length ≤ c0) (h : impl_storeCopy.f k l0 = some r) :
  Calls Try.prog 56 #[.slice A0 l0.length c0] w fun e w' => ∃ bQ : Value, e = .returned (bQ) ∧ Kd.S k72 72 w' w.heap.size (fun _ => True) bQ r ∧ Below w.heap.size w w' := by
 have bV := Try.underlying72; have bW := A_ bP; have b2 := A_ hc0; clear bP hc0; have HB := A_ (Below.refl w.heap.size w); have H := h; unfold impl_storeCopy.f at H; clear h; have H' := A_ H; clear H
 go_enter Try.func56, Try.ntmps56
 go_wp2
 go_loopg [3, 8] k (fun kq v3 v8 w' => ∃ (aU : List (S72)) (aA : Int), v8 = .int .i64 aA ∧ Aside0 (impl_storeCopy.l0 kq aU l0 (l0.length : Int) aA = some r) ∧ Aside0 (kq ≤ k) ∧ Aside0 (Kd.S k72 72 w' w.heap.size (fun _ => True) v3 aU) ∧ Aside0 (Below w.heap.size w w'))
 case atStart => exact ⟨(([] : List (S72))), (0), Z17, H', ⟨Nat.le_refl _⟩, ⟨by first | exact Kd.S_nil _ _ _ _ _ | exact Kd.N_nil _ _ _ _ _ | exact Kd.V_nil _ _ _ _ _ | exact Kd.Q_nil _ _ _ _ _ | exact Kd.R_nil _ _ _ _ _⟩, ⟨Z1⟩⟩
 case round =>
  clear H'; obtain ⟨aU, aA, rfl, HA, bR, aE, HB⟩ := hrel
  cases gk with
  | zero => exact absurd HA.out (by simp [impl_storeCopy.l0])
  | succ k1 =>
   have H := HA.out; clear HA; simp only [impl_storeCopy.l0] at H
   by_cases c2 : aA < (l0.length : Int)
   ·rw [if_pos c2] at H
    have bE := dt c2; clear c2
    by_cases c3 : 0 ≤ aA
    ·rw [if_pos c3] at H
     have bX := dt c3; clear c3
     by_cases c4 : aA < (l0.length : Int)
     ·rw [if_pos c4] at H
      have bY := dt c4; clear c4; replace H := bS H; obtain ⟨⟨aV, aW⟩, bT, H⟩ := H
      try dsimp only at H
      have A5 := A_ bT; clear bT
      by_cases c6 : aU.length < 2932031007402
      ·rw [if_pos c6] at H
       have bF := A_ c6; clear c6; obtain ⟨bG, aH⟩ : ∃ y_ : List (S72), y_ = (aU ++ [(⟨aV, aW⟩ : S72)]) := ⟨_, rfl⟩
       first | rw [← aH, Option.bind_some] at H | rw [← aH] at H
       have a7 := A_ aH; clear aH; have H' := A_ H; clear H; have a5 : 0 ≤ (aA : Int) := odt; have a6 : aA < (l0.length : Int) := odt; obtain ⟨bU, aX, aY, aZ, a0, bH, aI, aJ, aK, aM, aN, aQ⟩ := at_T72 bW.out aA a5 a6; cases bH; replace aI := ZC HB.out aI; replace aJ := ZC HB.out aJ; have a1 := A_ aM; have a2 := A_ aK; clear aM aK; have a3 := A_ aQ; have a4 := A_ aN; clear aQ aN; replace a5 := eq_true a5; replace a6 := eq_true a6
       go_wp2_with (first | ((with_reducible refine gate_dst (N := 5) rfl ?_); refine be (cs := #[.slice none 0 0, .slice none 0 0]) (t := 72) ?_; intro aG hg w7 hbox hb; replace aE := A_ (Kd.S_below (Kd.S_elderB (Z8 aE.out) aG (Nat.le_of_eq hg.symm)) hb); have aC := A_ hbox; have a8 := A_ (gl hg (bz Z1)); have aD := a8; replace HB := A_ (bst Z1 hb); clear hb hbox hg; obtain ⟨bI, bJ, bK, bL⟩ := C2 aC.out) | ((with_reducible refine gate_callee (f := 80) rfl ?_); refine gL 14 Try.func80 #[.agg #[.slice aX ((rd_T72 l0 aA).f0).length aY, .slice aZ ((rd_T72 l0 aA).f1).length a0]] ?_; (with_reducible refine (impl_cellCopy.calls _ _ ((rd_T72 l0 aA).f0) _ _ ((rd_T72 l0 aA).f1) aV aW _ ?s1 a2.out ?s3 a4.out A5.out).mono ?_); (case s1 => exact Kd.C_below a1.out (Z3 aD.out)); (case s3 => exact Kd.C_below a3.out (Z3 aD.out)); rintro e w9 ⟨bZ, b0, rfl, bM, ho1, hb⟩; refine ⟨_, rfl, ?_⟩; replace aE := A_ (Kd.S_mono (Kd.S_told (Kd.S_told (Kd.S_old (by (with_reducible repeat (first | apply Kd.S_alloc | apply Kd.S_drewN | apply Kd.S_drew)); exact (SF2 aE.out (fun _ hk => hk.2))) hb) (Kd.R_base bM)) (Kd.R_base ho1)) (fun _ h_ => h_.1)); have aR := A_ (Kd.R_lower bM (bz (Z3 aD.out))); have aT := A_ (Kd.R_lower ho1 (bz (Z3 aD.out))); replace aC := A_ (bb (g := aG) (o := .cells #[.slice aX ((rd_T72 l0 aA).f0).length aY, .slice aZ ((rd_T72 l0 aA).f1).length a0] 72 (0, 0)) (bp0 aC.out) hb); replace HB := A_ (bst (Z3 aD.out) hb); (try clear hb); (try clear bM); (try clear ho1); obtain ⟨a9, bA, bN⟩ := Kd.R_slice aR.out; subst bN; obtain ⟨bB, bC, bO⟩ := Kd.R_slice aT.out; subst bO) | ((with_reducible refine gate_builtin (b := .append) (xs := #[.tmp 12, .tmp 15]) rfl ?_); at_builtin; refine Kd.S_append k72 (w0 := w) w.heap.size rfl (.tmp 12) (.tmp 15) 23 72 (.agg #[(.slice none 0 0), (.slice none 0 0)]) 48 rfl Try.underlying23 info72 rfl (by decide) (by omega) u3 aU (⟨aV, aW⟩ : S72) [.slice a9 aV.length bA, .slice bB aW.length bC] (fun k_ => k_ ≠ aG) (fun k_ => some k_ = (.slice a9 aV.length bA : Value).ownBlock ∨ some k_ = (.slice bB aW.length bC : Value).ownBlock) rfl rfl ?aP (fun k_ hk_ => hk_.elim (fun h_ => ((Rm (ok' := fun k_ => ((fun k_ => k_ ≠ aG)) k_ ∧ some k_ ≠ (u3 : Value).ownBlock) (Kd.R_types (Kd.R_apart' (aR.out) (Kd.S_typed aE.out) (by decide)) aC.out (by decide)) (fun k_ hk => ⟨hk.2, hk.1.2⟩))).1 k_ h_.symm) (fun h_ => ((Rm (ok' := fun k_ => ((fun k_ => k_ ≠ aG)) k_ ∧ some k_ ≠ (u3 : Value).ownBlock) (Kd.R_types (Kd.R_apart' (aT.out) (Kd.S_typed aE.out) (by decide)) aC.out (by decide)) (fun k_ hk => ⟨hk.2, hk.1.2⟩))).1 k_ h_.symm)) ?aF ?aO ?aB ?aS ?aL ?_; (case aP => exact k72_mkM _ _ _ (⟨aV, aW⟩ : S72) (Rm (Kd.R_tight rfl (Rm (ok' := fun k_ => ((fun k_ => k_ ≠ aG)) k_ ∧ some k_ ≠ (u3 : Value).ownBlock) (Kd.R_types (Kd.R_apart' (aR.out) (Kd.S_typed aE.out) (by decide)) aC.out (by decide)) (fun k_ hk => ⟨hk.2, hk.1.2⟩))) (fun _ h_ => Or.inl h_)) (Rm (Kd.R_tight rfl (Rm (ok' := fun k_ => ((fun k_ => k_ ≠ aG)) k_ ∧ some k_ ≠ (u3 : Value).ownBlock) (Kd.R_types (Kd.R_apart' (aT.out) (Kd.S_typed aE.out) (by decide)) aC.out (by decide)) (fun k_ hk => ⟨hk.2, hk.1.2⟩))) (fun _ h_ => Or.inr (h_)))); (case aB => exact (Z3 aD.out)); (case aF => exact (fun k_ hk => Kd.freshB (Z2 aC.out) k_ hk)); (case aO => exact (by (with_reducible repeat (first | apply Kd.S_alloc | apply Kd.S_drewN | apply Kd.S_drew)); exact Kd.S_mono aE.out (fun k_ hk => ⟨hk.1.1.2, fun e_ => e_.elim (fun h_ => hk.1.2 h_) (fun h_ => hk.2 h_)⟩))); (case aS => exact (bz (Z3 aD.out))); (case aL => have := bF.out; omega); intro b1 b3 ho hb hg hat; rw [← a7.out] at ho; replace aC := A_ (blk_grown (Z2 aC.out) hg (Kd.S_away aE.out (fun _ hk => hk.1.1.2))); replace HB := A_ hb; have bD := A_ ho; clear aE; clear aR; clear aT; clear ho hb hg hat))
       go_roundg k1
       case measure => have := bR.out; omega
       case rel => exact ⟨(bG), (wrap64 (aA + 1)), Z17, H', ⟨by have := bR.out; omega⟩, ⟨by (with_reducible repeat (first | apply Kd.S_alloc | apply Kd.S_drewN | apply Kd.S_drew)); exact Kd.S_mono bD.out (fun _ hk => trivial)⟩, ⟨Z3 aD.out⟩⟩
      ·rw [if_neg c6] at H
       exact absurd H (by simp)
     ·exact Z45
    ·exact Z50
   ·rw [if_neg c2] at H
    have bE := df c2; clear c2; obtain rfl := Option.some.inj H
    go_wp2
    go_ret
    exact ⟨_, Z7, Z8 aE.out, Z1⟩
def impl_storesCopy.l0 : Nat → List (List (S72)) → List (List (S72)) → Int → Int → Option ((List (List (S72))))
 | 0, _, _, _, _ => none
 | k + 1, x3, x6, x7, x8 => if x8 < x7 then (if 0 ≤ x8 then (if x8 < (x6.length : Int) then ((impl_storeCopy.f k (rd_L7 x6 x8)).bind fun aA => (if x3.length < 5864062014805 then (impl_storesCopy.l0 k (x3 ++ [aA]) x6 x7 (wrap64 (x8 + 1))) else (none))) else (none)) else (none)) else (some x3)
def impl_storesCopy.f (k : Nat) (l0 : List (List (S72))) : Option ((List (List (S72)))) := impl_storesCopy.l0 k ([] : List (List (S72))) l0 (l0.length : Int) 0
theorem impl_storesCopy.calls (k : Nat) (A0 : Option Addr) (c0 : Nat) (l0 : List (List (S72))) (r : List (List (S72))) (w : World) (a1 : Kd.C (Kd.slice 72 k72) w A0 l0.length l0) (hc0 : l0.length ≤ c0) (h : impl_storesCopy.f k l0 = some r) :
  Calls Try.prog 57 #[.slice A0 l0.length c0] w fun e w' => ∃ a2 : Value, e = .returned (a2) ∧ Kd.S (Kd.rows 72 k72) 23 w' w.heap.size (fun _ => True) a2 r ∧ Below w.heap.size w w' := by
 have bB := A_ a1; have bJ := A_ hc0; clear a1 hc0; have HB := A_ (Below.refl w.heap.size w); have H := h; unfold impl_storesCopy.f at H; clear h; have H' := A_ H; clear H
 go_enter Try.func57, Try.ntmps57
 go_wp2
 go_loopg [3, 8] k (fun kq v3 v8 w' => ∃ (aI : List (List (S72))) (aA : Int), v8 = .int .i64 aA ∧ Aside0 (impl_storesCopy.l0 kq aI l0 (l0.length : Int) aA = some r) ∧ Aside0 (kq ≤ k) ∧ Aside0 (Kd.S (Kd.rows 72 k72) 23 w' w.heap.size (fun _ => True) v3 aI) ∧ Aside0 (Below w.heap.size w w'))
 case atStart => exact ⟨(([] : List (List (S72)))), (0), Z17, H', ⟨Nat.le_refl _⟩, ⟨by first | exact Kd.S_nil _ _ _ _ _ | exact Kd.N_nil _ _ _ _ _ | exact Kd.V_nil _ _ _ _ _ | exact Kd.Q_nil _ _ _ _ _ | exact Kd.S_nil _ _ _ _ _⟩, ⟨Z1⟩⟩
 case round =>
  clear H'; obtain ⟨aI, aA, rfl, HA, a3, aC, HB⟩ := hrel
  cases gk with
  | zero => exact absurd HA.out (by simp [impl_storesCopy.l0])
  | succ k1 =>
   have H := HA.out; clear HA; simp only [impl_storesCopy.l0] at H
   by_cases c2 : aA < (l0.length : Int)
   ·rw [if_pos c2] at H
    have aX := dt c2; clear c2
    by_cases c3 : 0 ≤ aA
    ·rw [if_pos c3] at H
     have bC := dt c3; clear c3
     by_cases c4 : aA < (l0.length : Int)
     ·rw [if_pos c4] at H
      have bD := dt c4; clear c4; replace H := bS H; obtain ⟨aK, a4, H⟩ := H
      try dsimp only at H
      have A5 := A_ a4; clear a4
      by_cases c6 : aI.length < 5864062014805
      ·rw [if_pos c6] at H
       have aY := A_ c6; clear c6; obtain ⟨aZ, aD⟩ : ∃ y_ : List (List (S72)), y_ = (aI ++ [aK]) := ⟨_, rfl⟩
       first | rw [← aD, Option.bind_some] at H | rw [← aD] at H
       have aV := A_ aD; clear aD; have H' := A_ H; clear H; have aQ : 0 ≤ (aA : Int) := odt; have aR : aA < (l0.length : Int) := odt; obtain ⟨a5, aT, aU, a0, aE, aG, aH⟩ := at_L7 bB.out aA aQ aR; cases a0; replace aE := ZC HB.out aE; have aM := A_ aH; have aN := A_ aG; clear aH aG; replace aQ := eq_true aQ; replace aR := eq_true aR
       go_wp2_with (first | ((with_reducible refine gate_callee (f := 56) rfl ?_); refine gL 14 Try.func56 #[.slice aT (rd_L7 l0 aA).length aU] ?_; (with_reducible refine (impl_storeCopy.calls k1 _ _ (rd_L7 l0 aA) aK _ ?s1 aN.out A5.out).mono ?_); (case s1 => exact Z4 aM.out); rintro e w7 ⟨bE, rfl, a6, hb⟩; refine ⟨_, rfl, ?_⟩; obtain ⟨s7, a7, h1_⟩ := Kd.S_split (Z8 aC.out) a6 hb (bz Z1); have a8 := A_ a7; have a9 := A_ h1_; clear a7 h1_; have bA := A_ (bst Z1 hb); clear aC; clear HB; have aC := a8; have aJ := a9; have HB := bA; clear a8 a9 bA; (try clear hb); (try clear a6); obtain ⟨bF, bG, bH⟩ := Kd.S_slice aJ.out; subst bH) | ((with_reducible refine gate_builtin (b := .append) (xs := #[.tmp 12, .tmp 15]) rfl ?_); at_builtin; refine Kd.S_append (Kd.rows 72 k72) (w0 := w) w.heap.size rfl (.tmp 12) (.tmp 15) 24 23 (.slice none 0 0) 24 rfl Try.underlying24 info23 rfl (by decide) (by omega) u3 aI aK [.slice bF aK.length bG] (fun _ => True) (fun k_ => s7 ≤ k_) rfl rfl ?aP (fun k_ hk => ⟨trivial, fun e_ => ((Kd.S_R aC.out).1 k_ e_.symm).2 hk⟩) ?aF ?aO ?aB ?aS ?aL ?_; (case aP => exact ⟨_, rfl, (Z8 aJ.out)⟩); (case aB => exact Z1); (case aF => exact (fun _ _ => trivial)); (case aO => exact (Z8 aC.out)); (case aS => exact (bz Z1)); (case aL => have := aY.out; omega); intro bI w8 ho hb hg hat; rw [← aV.out] at ho; replace HB := A_ hb; have aW := A_ ho; clear aC; clear aJ; clear ho hb hg hat))
       go_roundg k1
       case measure => have := a3.out; omega
       case rel => exact ⟨(aZ), (wrap64 (aA + 1)), Z17, H', ⟨by have := a3.out; omega⟩, ⟨Z8 aW.out⟩, ⟨Z1⟩⟩
      ·rw [if_neg c6] at H
       exact absurd H (by simp)
     ·exact Z45
    ·exact Z50
   ·rw [if_neg c2] at H
    have aX := df c2; clear c2; obtain rfl := Option.some.inj H
    go_wp2
    go_ret
    exact ⟨_, Z7, Z8 aC.out, Z1⟩
end Go.Proofs.Ytgbbcebjgpoioaa.PFnExactHistRedo
