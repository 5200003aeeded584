/- Walks (lines of the print; no condition). -/
import Derived.Test.YtgbbcebjgpoioaaZFnHistRedoQFnHistRedox17
namespace Go.Proofs.Ytgbbcebjgpoioaa.PFnHistRedo
open Go.RowKit Go.Proofs.YtgbbcebjgpoioaaW.PrintWords Go.Proofs.YtgbbcebjgpoioaaW.PrintLast Go.Proofs.YtgbbcebjgpoioaaW.PrintMore
attribute [local go_sem] max2_int min2_int max_two min_two max_three min_three max_four min_four
set_option linter.unusedVariables false
set_option linter.unusedSimpArgs false
set_option maxHeartbeats 8000000
set_option maxRecDepth 100000
attribute [local go_sem high] eqA98
def spec_boolean.f (a0 : Bool) : Option (Int × Int × ByteArray) := if a0 = true then ((spec_number.f 1).bind fun aA => (some (aA.1, aA.2.1, aA.2.2))) else ((spec_number.f 0).bind fun aB => (some (aB.1, aB.2.1, aB.2.2)))
theorem spec_boolean.calls (a0 : Bool) (r1 : Int) (r2 : Int) (r3 : ByteArray) (w : World) (h : spec_boolean.f a0 = some (r1, r2, r3)) :
  Calls Try.prog 112 #[.bool a0] w fun e w' => e = .returned (.agg #[.int .i64 r1, .int .i64 r2, .string r3]) ∧ Below w.heap.size w w' := by
 have aY := Try.underlying98; have HB := A_ (Below.refl w.heap.size w); have H := h; unfold spec_boolean.f at H; clear h
 by_cases c2 : a0 = true
 ·subst c2
  rw [if_pos rfl] at H; replace H := bS H; obtain ⟨⟨aE, aF, aG⟩, aW, H⟩ := H
  try dsimp only at H
  have A3 := A_ aW; clear aW; simp only [Option.some.injEq, Prod.mk.injEq] at H; obtain ⟨rfl, rfl, rfl⟩ := H
  go_enter Try.func112, Try.ntmps112
  go_wp2_with (first | ((with_reducible refine gate_dst (N := 2) rfl ?_); refine be (cs := #[.int .i64 0, .int .i64 0, .string (⟨#[]⟩ : ByteArray)]) (t := 98) ?_; intro aC hg w4 hbox hb; have aA := A_ hbox; have aD := A_ (gl hg (bz Z2)); have aB := aD; replace HB := A_ (bst Z2 hb); clear hb hbox hg) | ((with_reducible refine gate_callee (f := 114) rfl ?_); refine gL 4 Try.func114 #[.int .i64 1] ?_; (with_reducible refine (spec_number.calls 1 aE aF aG _ A3.out).mono ?_); rintro e w5 ⟨rfl, hb⟩; refine ⟨_, rfl, ?_⟩; replace aA := A_ (bb (Z0 aA.out) hb); replace HB := A_ (bst (Z3 aB.out) hb); (try clear hb); obtain ⟨aQ, aR, aS, aT, aU, aV⟩ := C3 aA.out))
  refine bodyPost_ret (results_cell_row rfl _ _ aC 98 #[.int .i64 aE, .int .i64 aF, .string aG] (0, 0) _ rfl (bp0 aA.out) Try.underlying98 rfl (by kernel_rfl)) rfl ?_
  exact ⟨Z11, Z3 aB.out⟩
 ·replace c2 := Bool.eq_false_iff.mpr c2
  subst c2; rw [if_neg (show ¬ (false = true) by decide)] at H; replace H := bS H; obtain ⟨⟨aH, aI, aJ⟩, aX, H⟩ := H
  try dsimp only at H
  have A7 := A_ aX; clear aX; simp only [Option.some.injEq, Prod.mk.injEq] at H; obtain ⟨rfl, rfl, rfl⟩ := H
  go_enter Try.func112, Try.ntmps112
  go_wp2_with (first | ((with_reducible refine gate_dst (N := 2) rfl ?_); refine be (cs := #[.int .i64 0, .int .i64 0, .string (⟨#[]⟩ : ByteArray)]) (t := 98) ?_; intro aC hg w8 hbox hb; have aA := A_ hbox; have aD := A_ (gl hg (bz Z2)); have aB := aD; replace HB := A_ (bst Z2 hb); clear hb hbox hg) | ((with_reducible refine gate_callee (f := 114) rfl ?_); refine gL 5 Try.func114 #[.int .i64 0] ?_; (with_reducible refine (spec_number.calls 0 aH aI aJ _ A7.out).mono ?_); rintro e w9 ⟨rfl, hb⟩; refine ⟨_, rfl, ?_⟩; replace aA := A_ (bb (Z0 aA.out) hb); replace HB := A_ (bst (Z3 aB.out) hb); (try clear hb); obtain ⟨aK, aL, aM, aN, aO, aP⟩ := C3 aA.out))
  refine bodyPost_ret (results_cell_row rfl _ _ aC 98 #[.int .i64 aH, .int .i64 aI, .string aJ] (0, 0) _ rfl (bp0 aA.out) Try.underlying98 rfl (by kernel_rfl)) rfl ?_
  exact ⟨Z11, Z3 aB.out⟩
def spec_decimal.f : Nat → Int → Option (ByteArray)
 | 0, _ => none
 | k + 1, a0 => if a0 < 0 then ((spec_decimal.f k (wrap64 (-a0))).bind fun aA => (if 1 + aA.size ≤ 9223372036854775807 then (some ((⟨#[45]⟩ : ByteArray) ++ aA)) else (none))) else (if a0 < 10 then (if 0 ≤ a0 then (if a0 ≤ (wrap64 (a0 + 1)) then (if (wrap64 (a0 + 1)) ≤ 10 then (some ((⟨#[48, 49, 50, 51, 52, 53, 54, 55, 56, 57]⟩ : ByteArray).extract (a0 : Int).toNat ((wrap64 (a0 + 1)) : Int).toNat)) else (none)) else (none)) else (none)) else ((spec_decimal.f k (wrap64 (Int.tdiv a0 10))).bind fun aB => ((spec_decimal.f k (Int.tmod a0 10)).bind fun aC => (if aB.size + aC.size ≤ 9223372036854775807 then (some (aB ++ aC)) else (none)))))
theorem spec_decimal.calls (k : Nat) : ∀ (a0 : Int) (r : ByteArray) (w : World) (h : spec_decimal.f k a0 = some r),
  Calls Try.prog 115 #[.int .i64 a0] w fun e w' => e = .returned (.string r) ∧ Drawn0 w w' := by
 induction k using Nat.strongRecOn with
 | _ k ih =>
 intro a0 r w h
 cases k with
 | zero => exact absurd h (by simp [spec_decimal.f])
 | succ k =>
 simp only [spec_decimal.f] at h; have H : (if a0 < 0 then ((spec_decimal.f k (wrap64 (-a0))).bind fun aA => (if 1 + aA.size ≤ 9223372036854775807 then (some ((⟨#[45]⟩ : ByteArray) ++ aA)) else (none))) else (if a0 < 10 then (if 0 ≤ a0 then (if a0 ≤ (wrap64 (a0 + 1)) then (if (wrap64 (a0 + 1)) ≤ 10 then (some ((⟨#[48, 49, 50, 51, 52, 53, 54, 55, 56, 57]⟩ : ByteArray).extract (a0 : Int).toNat ((wrap64 (a0 + 1)) : Int).toNat)) else (none)) else (none)) else (none)) else ((spec_decimal.f k (wrap64 (Int.tdiv a0 10))).bind fun aB => ((spec_decimal.f k (Int.tmod a0 10)).bind fun aC => (if aB.size + aC.size ≤ 9223372036854775807 then (some (aB ++ aC)) else (none)))))) = some r := h; clear h
 by_cases c2 : a0 < 0
 ·rw [if_pos c2] at H
  have aF := dt c2; clear c2; replace H := bS H; obtain ⟨aA, aH, H⟩ := H
  try dsimp only at H
  have A3 := A_ aH; clear aH
  by_cases c4 : 1 + aA.size ≤ 9223372036854775807
  ·rw [if_pos c4] at H
   have aM := eq_true c4; have aN := dt c4
   try have aO : (9223372036854775807 < 1 + aA.size) = False := eq_false (Nat.not_lt.2 c4)
   obtain rfl := Option.some.inj H
   go_enter Try.func115, Try.ntmps115
   go_wp2_with (first | ((with_reducible refine gate_callee (f := 115) rfl ?_); refine gL 7 Try.func115 #[.int .i64 (wrap64 (-a0))] ?_; (with_reducible refine (ih k (by omega) (wrap64 (-a0)) aA _ A3.out).mono ?_); rintro e w' ⟨rfl, ⟨nd, rfl⟩⟩; refine ⟨_, rfl, ?_⟩))
   go_ret
   exact ⟨Z26, Z34⟩
  ·exact Z84
 ·rw [if_neg c2] at H
  have aF := df c2; clear c2
  by_cases c5 : a0 < 10
  ·rw [if_pos c5] at H
   have aG := dt c5; clear c5
   by_cases c6 : 0 ≤ a0
   ·rw [if_pos c6] at H
    have aP := eq_true c6; have aQ := dt c6; clear c6
    by_cases c7 : a0 ≤ (wrap64 (a0 + 1))
    ·rw [if_pos c7] at H
     have aR := eq_true c7; have aS := dt c7
     by_cases c8 : (wrap64 (a0 + 1)) ≤ 10
     ·rw [if_pos c8] at H
      have aT := eq_true c8; have aU := dt c8; obtain rfl := Option.some.inj H
      go_enter Try.func115, Try.ntmps115
      go_wp2
      go_ret
      exact ⟨Z26, Z34⟩
     ·rw [if_neg c8] at H
      exact absurd H (by simp)
    ·rw [if_neg c7] at H
     exact absurd H (by simp)
   ·rw [if_neg c6] at H
    exact absurd H (by simp)
  ·rw [if_neg c5] at H
   have aG := df c5; clear c5; replace H := bS H; obtain ⟨aB, aI, H⟩ := H
   try dsimp only at H
   have A9 := A_ aI; clear aI; replace H := bS H; obtain ⟨aC, aD, H⟩ := H
   try dsimp only at H
   have aV := A_ aD; clear aD
   by_cases aE : aB.size + aC.size ≤ 9223372036854775807
   ·rw [if_pos aE] at H
    have aJ := eq_true aE; have aK := dt aE
    try have aL : (9223372036854775807 < aB.size + aC.size) = False := eq_false (Nat.not_lt.2 aE)
    obtain rfl := Option.some.inj H
    go_enter Try.func115, Try.ntmps115
    go_wp2_with (first | ((with_reducible refine gate_callee (f := 115) rfl ?_); refine gL 17 Try.func115 #[.int .i64 (wrap64 (Int.tdiv a0 10))] ?_; (with_reducible refine (ih k (by omega) (wrap64 (Int.tdiv a0 10)) aB _ A9.out).mono ?_); rintro e w' ⟨rfl, ⟨nd, rfl⟩⟩; refine ⟨_, rfl, ?_⟩) | ((with_reducible refine gate_callee (f := 115) rfl ?_); refine gL 20 Try.func115 #[.int .i64 (Int.tmod a0 10)] ?_; (with_reducible refine (ih k (by omega) (Int.tmod a0 10) aC _ aV.out).mono ?_); rintro e w' ⟨rfl, ⟨nd, rfl⟩⟩; refine ⟨_, rfl, ?_⟩))
    go_ret
    exact ⟨Z26, Z34⟩
   ·rw [if_neg aE] at H
    exact absurd H (by simp)
def spec_show.f (k : Nat) (aA : Int) (aB : Int) (aC : ByteArray) : Option (ByteArray) := if aA = 1 then ((spec_decimal.f k aB).bind fun aD => (some aD)) else (if aA = 2 then (some aC) else (some (⟨#[]⟩ : ByteArray)))
theorem spec_show.calls (k : Nat) (aA : Int) (aE : Int) (aF : ByteArray) (r : ByteArray) (w : World) (h : spec_show.f k aA aE aF = some r) :
  Calls Try.prog 113 #[.agg #[.int .i64 aA, .int .i64 aE, .string aF]] w fun e w' => e = .returned (.string r) ∧ Below w.heap.size w w' := by
 have a5 := Try.underlying98; have HB := A_ (Below.refl w.heap.size w); have H := h; unfold spec_show.f at H; clear h
 by_cases c2 : aA = 1
 ·rw [if_pos c2] at H
  have aN : (aA == 1) = true := beq_iff_eq.mpr c2; have aO : (aA != 1) = false := bne_eq_false_iff_eq.mpr c2; clear c2; replace H := bS H; obtain ⟨aP, a4, H⟩ := H
  try dsimp only at H
  have A3 := A_ a4; clear a4; obtain rfl := Option.some.inj H
  go_enter Try.func113, Try.ntmps113
  go_wp2_with (first | ((with_reducible refine gate_dst (N := 1) rfl ?_); refine be (cs := #[.int .i64 aA, .int .i64 aE, .string aF]) (t := 98) ?_; intro aG hg w4 hbox hb; have aB := A_ hbox; have aC := A_ (gl hg (bz Z2)); have aD := aC; replace HB := A_ (bst Z2 hb); clear hb hbox hg; obtain ⟨aQ, aR, aS, aT, aU, aV⟩ := C3 aB.out) | ((with_reducible refine gate_callee (f := 115) rfl ?_); refine gL 9 Try.func115 #[.int .i64 aE] ?_; (with_reducible refine (spec_decimal.calls k aE aP _ A3.out).mono ?_); rintro e w' ⟨rfl, ⟨nd, rfl⟩⟩; refine ⟨_, rfl, ?_⟩))
  go_ret
  exact ⟨Z11, Z3 aD.out⟩
 ·rw [if_neg c2] at H
  have aN : (aA == 1) = false := beq_eq_false_iff_ne.mpr c2; have aO : (aA != 1) = true := bne_iff_ne.mpr c2
  by_cases c6 : aA = 2
  ·rw [if_pos c6] at H
   have aW : (aA == 2) = true := beq_iff_eq.mpr c6; have aX : (aA != 2) = false := bne_eq_false_iff_eq.mpr c6; clear c6; obtain rfl := Option.some.inj H
   go_enter Try.func113, Try.ntmps113
   go_wp2_with (first | ((with_reducible refine gate_dst (N := 1) rfl ?_); refine be (cs := #[.int .i64 aA, .int .i64 aE, .string aF]) (t := 98) ?_; intro aG hg w7 hbox hb; have aB := A_ hbox; have aC := A_ (gl hg (bz Z2)); have aD := aC; replace HB := A_ (bst Z2 hb); clear hb hbox hg; obtain ⟨aY, aZ, a0, a1, a2, a3⟩ := C3 aB.out))
   go_ret
   exact ⟨Z11, Z3 aD.out⟩
  ·rw [if_neg c6] at H
   have aW : (aA == 2) = false := beq_eq_false_iff_ne.mpr c6; have aX : (aA != 2) = true := bne_iff_ne.mpr c6; obtain rfl := Option.some.inj H
   go_enter Try.func113, Try.ntmps113
   go_wp2_with (first | ((with_reducible refine gate_dst (N := 1) rfl ?_); refine be (cs := #[.int .i64 aA, .int .i64 aE, .string aF]) (t := 98) ?_; intro aG hg w9 hbox hb; have aB := A_ hbox; have aC := A_ (gl hg (bz Z2)); have aD := aC; replace HB := A_ (bst Z2 hb); clear hb hbox hg; obtain ⟨aH, aI, aJ, aK, aL, aM⟩ := C3 aB.out))
   go_ret
   exact ⟨Z11, Z3 aD.out⟩
def spec_do.j0 : Nat → Int → Bool → Int → Int → ByteArray → Int → Int → ByteArray → Option (Int × Int × ByteArray)
 | 0, _, _, _, _, _, _, _, _ => none
 | k + 1, x0, x7, aC, aA, aD, aE, aB, aF => if x0 = 4 then ((spec_boolean.f (aC == aE && (aA == aB && (aD.toList == aF.toList)))).bind fun aG => (some (aG.1, aG.2.1, aG.2.2))) else (if x0 = 6 then ((spec_truth.f aC aA aD).bind fun aN => (if aN = true then (some (aE, aB, aF)) else (some (aC, aA, aD)))) else (if x0 = 5 then ((spec_show.f k aC aA aD).bind fun aL => ((spec_show.f k aE aB aF).bind fun aM => (if aL.size + aM.size ≤ 9223372036854775807 then ((spec_validWord.f k (aL ++ aM)).bind fun aO => (if aO = true then (some (2, 0, aL ++ aM)) else (some (0, 0, (⟨#[]⟩ : ByteArray))))) else (none)))) else (if x7 = true then (if x0 = 0 then ((spec_number.f (wrap64 (aA + aB))).bind fun aH => (some (aH.1, aH.2.1, aH.2.2))) else (if x0 = 1 then ((spec_number.f (wrap64 (aA - aB))).bind fun aI => (some (aI.1, aI.2.1, aI.2.2))) else (if x0 = 2 then ((spec_number.f (wrap64 (aA * aB))).bind fun aJ => (some (aJ.1, aJ.2.1, aJ.2.2))) else ((spec_boolean.f (decide (aA < aB))).bind fun aK => (some (aK.1, aK.2.1, aK.2.2)))))) else (some (0, 0, (⟨#[]⟩ : ByteArray))))))
def spec_do.f (k : Nat) (a0 : Int) (aA : Int) (aC : Int) (aD : ByteArray) (aB : Int) (aE : Int) (aF : ByteArray) : Option (Int × Int × ByteArray) := if aA = 1 then (spec_do.j0 k a0 (aB == 1) aA aC aD aB aE aF) else (spec_do.j0 k a0 false aA aC aD aB aE aF)
theorem spec_do.calls (k : Nat) (a0 : Int) (aL : Int) (aJ : Int) (aN : ByteArray) (aQ : Int) (aM : Int) (aR : ByteArray) (r1 : Int) (r2 : Int) (r3 : ByteArray) (w : World) (h : spec_do.f k a0 aL aJ aN aQ aM aR = some (r1, r2, r3)) :
  Calls Try.prog 109 #[.int .i64 a0, .agg #[.int .i64 aL, .int .i64 aJ, .string aN], .agg #[.int .i64 aQ, .int .i64 aM, .string aR]] w fun e w' => e = .returned (.agg #[.int .i64 r1, .int .i64 r2, .string r3]) ∧ Below w.heap.size w w' := by
 have kE := Try.underlying98; have HB := A_ (Below.refl w.heap.size w); have H := h; unfold spec_do.f at H; clear h; have hU := A_ H; clear H
 go_enter Try.func109, Try.ntmps109
 go_upto_region 1 with (first | ((with_reducible refine gate_dst (N := 4) rfl ?_); refine be (cs := #[.int .i64 aL, .int .i64 aJ, .string aN]) (t := 98) ?_; intro aO hg w5 hbox hb; have aA := A_ hbox; have a6 := A_ (gl hg (bz Z2)); have GE706 := a6; replace HB := A_ (bst Z2 hb); clear hb hbox hg) | ((with_reducible refine gate_dst (N := 5) rfl ?_); refine be (cs := #[.int .i64 aQ, .int .i64 aM, .string aR]) (t := 98) ?_; intro aP hg w6 hbox hb; have aB := A_ hbox; have a7 := A_ (gl hg (bz (Z3 GE706.out))); have GE707 := a7; replace HB := A_ (bst (Z3 GE706.out) hb); have aH := A_ ((by rw [hg]; exact nl (blk_lt (Z0 aA.out)) : aO ≠ aP)); have aI := A_ ((by rw [hg]; exact Nat.ne_of_gt (blk_lt (Z0 aA.out)) : aP ≠ aO)); replace aA := A_ (bb (Z0 aA.out) hb); clear hb hbox hg) | ((with_reducible refine gate_dst (N := 6) rfl ?_); refine be (cs := #[.int .i64 0, .int .i64 0, .string (⟨#[]⟩ : ByteArray)]) (t := 98) ?_; intro aK hg w7 hbox hb; have aC := A_ hbox; have a8 := A_ (gl hg (bz (Z4 GE706.out GE707.out))); have GE708 := a8; replace HB := A_ (bst (Z4 GE706.out GE707.out) hb); have aD := A_ ((by rw [hg]; exact nl (blk_lt (Z0 aA.out)) : aO ≠ aK)); have aE := A_ ((by rw [hg]; exact Nat.ne_of_gt (blk_lt (Z0 aA.out)) : aK ≠ aO)); replace aA := A_ (bb (Z0 aA.out) hb); have aF := A_ ((by rw [hg]; exact nl (blk_lt (Z0 aB.out)) : aP ≠ aK)); have aG := A_ ((by rw [hg]; exact Nat.ne_of_gt (blk_lt (Z0 aB.out)) : aK ≠ aP)); replace aB := A_ (bb (Z0 aB.out) hb); clear hb hbox hg))
 (try simp only [Act.put, List.setIfInBounds_toArray, List.set_cons_zero, List.set_cons_succ])
 go_cut [7] (fun v7 wc => ∃ (kq : Nat) (aV : Bool), v7 = .bool aV ∧ Aside0 (spec_do.j0 kq a0 aV aL aJ aN aQ aM aR = some (r1, r2, r3)) ∧ Aside0 (kq ≤ k) ∧ Aside0 (wc.heap[aO]? = some (.cells #[.int .i64 aL, .int .i64 aJ, .string aN] 98 (0, 0))) ∧ Aside0 (wc.heap[aP]? = some (.cells #[.int .i64 aQ, .int .i64 aM, .string aR] 98 (0, 0))) ∧ Aside0 (wc.heap[aK]? = some (.cells #[.int .i64 0, .int .i64 0, .string (⟨#[]⟩ : ByteArray)] 98 (0, 0))) ∧ Aside0 (Below w.heap.size w wc))
 case first =>
  have H := hU.out; clear hU
  by_cases c8 : aL = 1
  ·rw [if_pos c8] at H
   have aU : (aL == 1) = true := beq_iff_eq.mpr c8; have hV : (aL != 1) = false := bne_eq_false_iff_eq.mpr c8; clear c8; (first | rw [aU] | (simp only [i64_w, i32_w]; rw [aU]) | skip); have H' := A_ H; clear H; have kF := aH.out; have kG := aI.out; have iA := aD.out; have iB := aE.out; obtain ⟨cF, cG, cH, cI, cJ, cK⟩ := C3 aA.out; have iC := aF.out; have iD := aG.out; obtain ⟨cL, cM, cN, cO, cP, cQ⟩ := C3 aB.out
   go_wp2
   go_meet
   case rel => exact ⟨_, ((aQ == 1)), Z26, H', ⟨Z85⟩, ⟨Z0 aA.out⟩, ⟨Z0 aB.out⟩, ⟨Z0 aC.out⟩, ⟨Z25⟩⟩
  ·rw [if_neg c8] at H
   have aU : (aL == 1) = false := beq_eq_false_iff_ne.mpr c8; have hV : (aL != 1) = true := bne_iff_ne.mpr c8; (first | rw [aU] | (simp only [i64_w, i32_w]; rw [aU]) | skip); have H' := A_ H; clear H; have iE := aH.out; have iF := aI.out; have iG := aD.out; have iH := aE.out; obtain ⟨cR, cS, cT, cU, cV, cW⟩ := C3 aA.out
   go_wp2
   go_meet
   case rel => exact ⟨_, (false), Z26, H', ⟨Z85⟩, ⟨Z0 aA.out⟩, ⟨Z0 aB.out⟩, ⟨Z0 aC.out⟩, ⟨Z25⟩⟩
 case rest =>
  clear hU; try clear c8
  obtain ⟨kq, aV, rfl, HA, kM, aA, aB, aC, HB⟩ := hcut
  cases kq with
  | zero => exact absurd HA.out (by simp [spec_do.j0])
  | succ a5 =>
   have H := HA.out; clear HA; simp only [spec_do.j0] at H
   by_cases aW : a0 = 4
   ·rw [if_pos aW] at H
    have a9 : (a0 == 4) = true := beq_iff_eq.mpr aW; have bA : (a0 != 4) = false := bne_eq_false_iff_eq.mpr aW; clear aW; replace H := bS H; obtain ⟨⟨bB, bC, bD⟩, bE, H⟩ := H
    try dsimp only at H
    have kH := A_ bE; clear bE; simp only [Option.some.injEq, Prod.mk.injEq] at H; obtain ⟨rfl, rfl, rfl⟩ := H; have iI := aH.out; have iJ := aI.out; have iK := aD.out; have iL := aE.out; obtain ⟨cX, cY, cZ, dA, dB, dC⟩ := C3 aA.out; have iM := aF.out; have iN := aG.out; obtain ⟨dD, dE, dF, dG, dH, dI⟩ := C3 aB.out
    go_wp2_with (first | ((with_reducible refine gate_callee (f := 112) rfl ?_); refine gL 23 Try.func112 #[.bool (aL == aQ && (aJ == aM && (aN.toList == aR.toList)))] ?_; (with_reducible refine (spec_boolean.calls (aL == aQ && (aJ == aM && (aN.toList == aR.toList))) bB bC bD _ kH.out).mono ?_); rintro e kN ⟨rfl, hb⟩; refine ⟨_, rfl, ?_⟩; replace aA := A_ (bb (Z0 aA.out) hb); replace aB := A_ (bb (Z0 aB.out) hb); replace aC := A_ (bb (Z0 aC.out) hb); replace HB := A_ (bst Z25 hb); (try clear hb); obtain ⟨dJ, dK, dL, dM, dN, dO⟩ := C3 aC.out))
    refine bodyPost_ret (results_cell_row rfl _ _ aK 98 #[.int .i64 bB, .int .i64 bC, .string bD] (0, 0) _ rfl (bp0 aC.out) Try.underlying98 rfl (by kernel_rfl)) rfl ?_
    exact ⟨Z11, Z25⟩
   ·rw [if_neg aW] at H
    have a9 : (a0 == 4) = false := beq_eq_false_iff_ne.mpr aW; have bA : (a0 != 4) = true := bne_iff_ne.mpr aW
    by_cases aX : a0 = 6
    ·rw [if_pos aX] at H
     have bF : (a0 == 6) = true := beq_iff_eq.mpr aX; have bG : (a0 != 6) = false := bne_eq_false_iff_eq.mpr aX; clear aX; replace H := bS H; obtain ⟨hX, bH, H⟩ := H
     try dsimp only at H
     have iO := A_ bH; clear bH
     by_cases dP : hX = true
     ·subst dP
      rw [if_pos rfl] at H; simp only [Option.some.injEq, Prod.mk.injEq] at H; obtain ⟨rfl, rfl, rfl⟩ := H; have iP := aH.out; have iQ := aI.out; have iR := aD.out; have iS := aE.out; obtain ⟨dQ, dR, dS, dT, dU, dV⟩ := C3 aA.out
      go_wp2_with (first | ((with_reducible refine gate_callee (f := 110) rfl ?_); refine gL 28 Try.func110 #[.agg #[.int .i64 aL, .int .i64 aJ, .string aN]] ?_; (with_reducible refine (spec_truth.calls aL aJ aN true _ iO.out).mono ?_); rintro e kO ⟨rfl, hb⟩; refine ⟨_, rfl, ?_⟩; replace aA := A_ (bb (Z0 aA.out) hb); replace aB := A_ (bb (Z0 aB.out) hb); replace aC := A_ (bb (Z0 aC.out) hb); replace HB := A_ (bst Z25 hb); (try clear hb); have iT := aF.out; have iU := aG.out; obtain ⟨dW, dX, dY, dZ, d0, d1⟩ := C3 aB.out; obtain ⟨d2, d3, d4, d5, d6, d7⟩ := C3 aC.out))
      refine bodyPost_ret (results_cell_row rfl _ _ aK 98 #[.int .i64 aQ, .int .i64 aM, .string aR] (0, 0) _ rfl (bp0 aC.out) Try.underlying98 rfl (by kernel_rfl)) rfl ?_
      exact ⟨Z11, Z25⟩
     ·replace dP := Bool.eq_false_iff.mpr dP
      subst dP; rw [if_neg (show ¬ (false = true) by decide)] at H; simp only [Option.some.injEq, Prod.mk.injEq] at H; obtain ⟨rfl, rfl, rfl⟩ := H; have iV := aH.out; have iW := aI.out; have iX := aD.out; have iY := aE.out; obtain ⟨d8, d9, eA, eB, eC, eD⟩ := C3 aA.out
      go_wp2_with (first | ((with_reducible refine gate_callee (f := 110) rfl ?_); refine gL 28 Try.func110 #[.agg #[.int .i64 aL, .int .i64 aJ, .string aN]] ?_; (with_reducible refine (spec_truth.calls aL aJ aN false _ iO.out).mono ?_); rintro e kP ⟨rfl, hb⟩; refine ⟨_, rfl, ?_⟩; replace aA := A_ (bb (Z0 aA.out) hb); replace aB := A_ (bb (Z0 aB.out) hb); replace aC := A_ (bb (Z0 aC.out) hb); replace HB := A_ (bst Z25 hb); (try clear hb); obtain ⟨eE, eF, eG, eH, eI, eJ⟩ := C3 aA.out; have iZ := aG.out; have i6 := aF.out; obtain ⟨eK, eL, eM, eN, eO, eP⟩ := C3 aC.out))
      refine bodyPost_ret (results_cell_row rfl _ _ aK 98 #[.int .i64 aL, .int .i64 aJ, .string aN] (0, 0) _ rfl (bp0 aC.out) Try.underlying98 rfl (by kernel_rfl)) rfl ?_
      exact ⟨Z11, Z25⟩
    ·rw [if_neg aX] at H
     have bF : (a0 == 6) = false := beq_eq_false_iff_ne.mpr aX; have bG : (a0 != 6) = true := bne_iff_ne.mpr aX
     by_cases aY : a0 = 5
     ·rw [if_pos aY] at H
      have bI : (a0 == 5) = true := beq_iff_eq.mpr aY; have bJ : (a0 != 5) = false := bne_eq_false_iff_eq.mpr aY; clear aY; replace H := bS H; obtain ⟨aS, bK, H⟩ := H
      try dsimp only at H
      have i7 := A_ bK; clear bK; replace H := bS H; obtain ⟨aT, bL, H⟩ := H
      try dsimp only at H
      have i8 := A_ bL; clear bL
      by_cases bM : aS.size + aT.size ≤ 9223372036854775807
      ·rw [if_pos bM] at H
       have i9 := eq_true bM; have jA := dt bM
       try have jB : (9223372036854775807 < aS.size + aT.size) = False := eq_false (Nat.not_lt.2 bM)
       replace H := bS H; obtain ⟨hY, bN, H⟩ := H
       try dsimp only at H
       have jC := A_ bN; clear bN
       by_cases eQ : hY = true
       ·subst eQ
        rw [if_pos rfl] at H; simp only [Option.some.injEq, Prod.mk.injEq] at H; obtain ⟨rfl, rfl, rfl⟩ := H
        try go_wp2
        replace aA := A_ (blk_drew aA.out); replace aB := A_ (blk_drew aB.out); replace aC := A_ (blk_drew aC.out); replace HB := A_ (below_drew1 HB.out)
        refine start_ (n := 6) (S := fun w' => w'.cell? ⟨aO, 0, none⟩ = some (.int .i64 aL) ∧ w'.cell? ⟨aO, 1, none⟩ = some (.int .i64 aJ) ∧ w'.cell? ⟨aO, 2, none⟩ = some (.string aN) ∧ w'.cell? ⟨aP, 0, none⟩ = some (.int .i64 aQ) ∧ w'.cell? ⟨aP, 1, none⟩ = some (.int .i64 aM) ∧ w'.cell? ⟨aP, 2, none⟩ = some (.string aR)) (ds := []) #[F,F,F,F,F,F] (by kernel_rfl) rfl rfl ⟨(bc aA.out 0).trans rfl, (bc aA.out 1).trans rfl, (bc aA.out 2).trans rfl, (bc aB.out 0).trans rfl, (bc aB.out 1).trans rfl, (bc aB.out 2).trans rfl⟩ (fun hHeld => ?_)
        generalize wc.drew = kQ at aA aB aC HB hHeld ⊢; refine tU 0 34 #[T,F,F,F,F,F] ?_ (y := Z83) (hc := by kernel_rfl); refine tU 2 36 #[T,F,T,F,F,F] ?_ (y := Z83) (hc := by kernel_rfl)
        refine oU 1 (some 35) #[T,T,T,F,F,F] (fun K hK => ?_) (hc := by kernel_rfl)
        refine goes_ Try.func113 (by kernel_rfl) rfl #[.agg #[.int .i64 aL, .int .i64 aJ, .string aN]] (by rfl) rfl rfl Z23 ?_
        with_reducible refine (spec_show.calls a5 aL aJ aN aS _ i7.out).mono ?_
        rintro e kR ⟨rfl, hb⟩
        refine ⟨_, rfl, ?_⟩
        replace aA := A_ (bb (Z0 aA.out) hb); replace aB := A_ (bb (Z0 aB.out) hb); replace aC := A_ (bb (Z0 aC.out) hb); replace HB := A_ (bst Z25 hb); (try clear hb); (try clear hZ); (try clear hk); (try clear hi)
        refine hK.out _ _ ⟨(bc aA.out 0).trans rfl, (bc aA.out 1).trans rfl, (bc aA.out 2).trans rfl, (bc aB.out 0).trans rfl, (bc aB.out 1).trans rfl, (bc aB.out 2).trans rfl⟩ (fun hHeld => ?_)
        clear hK K
        refine norm_ (a' := ?_) ?_ ?_
        rotate_left; (·exact Z58)
        refine oU 3 (some 37) #[T,T,T,T,F,F] (fun K hK => ?_) (hc := by kernel_rfl)
        refine goes_ Try.func113 (by kernel_rfl) rfl #[.agg #[.int .i64 aQ, .int .i64 aM, .string aR]] (by rfl) rfl rfl Z23 ?_
        with_reducible refine (spec_show.calls a5 aQ aM aR aT _ i8.out).mono ?_
        rintro e aZ ⟨rfl, hb⟩
        refine ⟨_, rfl, ?_⟩
        replace aA := A_ (bb (Z0 aA.out) hb); replace aB := A_ (bb (Z0 aB.out) hb); replace aC := A_ (bb (Z0 aC.out) hb); replace HB := A_ (bst Z25 hb); (try clear hb); (try clear hZ); (try clear hk); (try clear hi)
        refine hK.out _ _ ⟨(bc aA.out 0).trans rfl, (bc aA.out 1).trans rfl, (bc aA.out 2).trans rfl, (bc aB.out 0).trans rfl, (bc aB.out 1).trans rfl, (bc aB.out 2).trans rfl⟩ (fun hHeld => ?_)
        clear hK K
        refine norm_ (a' := ?_) ?_ ?_
        rotate_left; (·exact Z99); refine pU 4 38 #[T,T,T,T,T,F] ?_ (hc := by kernel_rfl); refine pU 5 8 #[T,T,T,T,T,T] ?_ (hc := by kernel_rfl)
        refine done_ (by kernel_rfl) ?_
        try go_wp2_with (first | ((with_reducible refine gate_callee (f := 105) rfl ?_); refine gL 40 Try.func105 #[.string (aS ++ aT)] ?_; (with_reducible refine (spec_validWord.calls a5 (aS ++ aT) true _ jC.out).mono ?_); rintro e w' ⟨rfl, ⟨nd, rfl⟩⟩; refine ⟨_, rfl, ?_⟩; (try (rw [drewN_self aZ]; generalize hq_ : World.drewN aZ _ = aZ; have bO : Aside0 (aZ.heap[aO]? = some (.cells #[.int .i64 aL, .int .i64 aJ, .string aN] 98 (0, 0))) := ⟨by rw [← hq_]; exact (Z0 aA.out)⟩; have bP : Aside0 (aZ.heap[aP]? = some (.cells #[.int .i64 aQ, .int .i64 aM, .string aR] 98 (0, 0))) := ⟨by rw [← hq_]; exact (Z0 aB.out)⟩; have bQ : Aside0 (aZ.heap[aK]? = some (.cells #[.int .i64 0, .int .i64 0, .string (⟨#[]⟩ : ByteArray)] 98 (0, 0))) := ⟨by rw [← hq_]; exact (Z0 aC.out)⟩; have bR : Aside0 (Below w.heap.size w aZ) := ⟨by rw [← hq_]; exact Z25⟩; clear aA aB aC HB hq_; have aA := bO; have aB := bP; have aC := bQ; have HB := bR; clear bO bP bQ bR)); have jD := aE.out; have jE := aD.out; have jF := aG.out; have jG := aF.out; obtain ⟨eR, eS, eT, eU, eV, eW⟩ := C3 aC.out))
        refine bodyPost_ret (results_cell_row rfl _ _ aK 98 #[.int .i64 2, .int .i64 0, .string (aS ++ aT)] (0, 0) _ rfl (bp0 aC.out) Try.underlying98 rfl (by kernel_rfl)) rfl ?_
        exact ⟨Z11, Z25⟩
       ·replace eQ := Bool.eq_false_iff.mpr eQ
        subst eQ; rw [if_neg (show ¬ (false = true) by decide)] at H; simp only [Option.some.injEq, Prod.mk.injEq] at H; obtain ⟨rfl, rfl, rfl⟩ := H
        try go_wp2
        replace aA := A_ (blk_drew aA.out); replace aB := A_ (blk_drew aB.out); replace aC := A_ (blk_drew aC.out); replace HB := A_ (below_drew1 HB.out)
        refine start_ (n := 6) (S := fun w' => w'.cell? ⟨aO, 0, none⟩ = some (.int .i64 aL) ∧ w'.cell? ⟨aO, 1, none⟩ = some (.int .i64 aJ) ∧ w'.cell? ⟨aO, 2, none⟩ = some (.string aN) ∧ w'.cell? ⟨aP, 0, none⟩ = some (.int .i64 aQ) ∧ w'.cell? ⟨aP, 1, none⟩ = some (.int .i64 aM) ∧ w'.cell? ⟨aP, 2, none⟩ = some (.string aR)) (ds := []) #[F,F,F,F,F,F] (by kernel_rfl) rfl rfl ⟨(bc aA.out 0).trans rfl, (bc aA.out 1).trans rfl, (bc aA.out 2).trans rfl, (bc aB.out 0).trans rfl, (bc aB.out 1).trans rfl, (bc aB.out 2).trans rfl⟩ (fun hHeld => ?_)
        generalize wc.drew = kS at aA aB aC HB hHeld ⊢; refine tU 0 34 #[T,F,F,F,F,F] ?_ (y := Z83) (hc := by kernel_rfl); refine tU 2 36 #[T,F,T,F,F,F] ?_ (y := Z83) (hc := by kernel_rfl)
        refine oU 1 (some 35) #[T,T,T,F,F,F] (fun K hK => ?_) (hc := by kernel_rfl)
        refine goes_ Try.func113 (by kernel_rfl) rfl #[.agg #[.int .i64 aL, .int .i64 aJ, .string aN]] (by rfl) rfl rfl Z23 ?_
        with_reducible refine (spec_show.calls a5 aL aJ aN aS _ i7.out).mono ?_
        rintro e kT ⟨rfl, hb⟩
        refine ⟨_, rfl, ?_⟩
        replace aA := A_ (bb (Z0 aA.out) hb); replace aB := A_ (bb (Z0 aB.out) hb); replace aC := A_ (bb (Z0 aC.out) hb); replace HB := A_ (bst Z25 hb); (try clear hb); (try clear hZ); (try clear hk); (try clear hi)
        refine hK.out _ _ ⟨(bc aA.out 0).trans rfl, (bc aA.out 1).trans rfl, (bc aA.out 2).trans rfl, (bc aB.out 0).trans rfl, (bc aB.out 1).trans rfl, (bc aB.out 2).trans rfl⟩ (fun hHeld => ?_)
        clear hK K
        refine norm_ (a' := ?_) ?_ ?_
        rotate_left; (·exact Z58)
        refine oU 3 (some 37) #[T,T,T,T,F,F] (fun K hK => ?_) (hc := by kernel_rfl)
        refine goes_ Try.func113 (by kernel_rfl) rfl #[.agg #[.int .i64 aQ, .int .i64 aM, .string aR]] (by rfl) rfl rfl Z23 ?_
        with_reducible refine (spec_show.calls a5 aQ aM aR aT _ i8.out).mono ?_
        rintro e a1 ⟨rfl, hb⟩
        refine ⟨_, rfl, ?_⟩
        replace aA := A_ (bb (Z0 aA.out) hb); replace aB := A_ (bb (Z0 aB.out) hb); replace aC := A_ (bb (Z0 aC.out) hb); replace HB := A_ (bst Z25 hb); (try clear hb); (try clear hZ); (try clear hk); (try clear hi)
        refine hK.out _ _ ⟨(bc aA.out 0).trans rfl, (bc aA.out 1).trans rfl, (bc aA.out 2).trans rfl, (bc aB.out 0).trans rfl, (bc aB.out 1).trans rfl, (bc aB.out 2).trans rfl⟩ (fun hHeld => ?_)
        clear hK K
        refine norm_ (a' := ?_) ?_ ?_
        rotate_left; (·exact Z99); refine pU 4 38 #[T,T,T,T,T,F] ?_ (hc := by kernel_rfl); refine pU 5 8 #[T,T,T,T,T,T] ?_ (hc := by kernel_rfl)
        refine done_ (by kernel_rfl) ?_
        try go_wp2_with (first | ((with_reducible refine gate_callee (f := 105) rfl ?_); refine gL 40 Try.func105 #[.string (aS ++ aT)] ?_; (with_reducible refine (spec_validWord.calls a5 (aS ++ aT) false _ jC.out).mono ?_); rintro e w' ⟨rfl, ⟨nd, rfl⟩⟩; refine ⟨_, rfl, ?_⟩; (try (rw [drewN_self a1]; generalize hq_ : World.drewN a1 _ = a1; have bO : Aside0 (a1.heap[aO]? = some (.cells #[.int .i64 aL, .int .i64 aJ, .string aN] 98 (0, 0))) := ⟨by rw [← hq_]; exact (Z0 aA.out)⟩; have bP : Aside0 (a1.heap[aP]? = some (.cells #[.int .i64 aQ, .int .i64 aM, .string aR] 98 (0, 0))) := ⟨by rw [← hq_]; exact (Z0 aB.out)⟩; have bQ : Aside0 (a1.heap[aK]? = some (.cells #[.int .i64 0, .int .i64 0, .string (⟨#[]⟩ : ByteArray)] 98 (0, 0))) := ⟨by rw [← hq_]; exact (Z0 aC.out)⟩; have bR : Aside0 (Below w.heap.size w a1) := ⟨by rw [← hq_]; exact Z25⟩; clear aA aB aC HB hq_; have aA := bO; have aB := bP; have aC := bQ; have HB := bR; clear bO bP bQ bR)); have jH := aE.out; have jI := aD.out; have jJ := aG.out; have jK := aF.out; obtain ⟨eX, eY, eZ, e0, e1, e2⟩ := C3 aC.out))
        refine bodyPost_ret (results_cell_row rfl _ _ aK 98 #[.int .i64 0, .int .i64 0, .string (⟨#[]⟩ : ByteArray)] (0, 0) _ rfl (bp0 aC.out) Try.underlying98 rfl (by kernel_rfl)) rfl ?_
        exact ⟨Z11, Z25⟩
      ·rw [if_neg bM] at H
       exact absurd H (by simp)
     ·rw [if_neg aY] at H
      have bI : (a0 == 5) = false := beq_eq_false_iff_ne.mpr aY; have bJ : (a0 != 5) = true := bne_iff_ne.mpr aY
      by_cases e3 : aV = true
      ·subst e3
       rw [if_pos rfl] at H
       by_cases a2 : a0 = 0
       ·rw [if_pos a2] at H
        have bT : (a0 == 0) = true := beq_iff_eq.mpr a2; have bU : (a0 != 0) = false := bne_eq_false_iff_eq.mpr a2; clear a2; replace H := bS H; obtain ⟨⟨bV, bW, bX⟩, bY, H⟩ := H
        try dsimp only at H
        have kI := A_ bY; clear bY; simp only [Option.some.injEq, Prod.mk.injEq] at H; obtain ⟨rfl, rfl, rfl⟩ := H; have jL := aH.out; have jM := aI.out; have jN := aD.out; have jO := aE.out; obtain ⟨e4, e5, e6, e7, e8, e9⟩ := C3 aA.out; have jP := aF.out; have jQ := aG.out; obtain ⟨fA, fB, fC, fD, fE, fF⟩ := C3 aB.out
        go_wp2_with (first | ((with_reducible refine gate_callee (f := 114) rfl ?_); refine gL 57 Try.func114 #[.int .i64 (wrap64 (aJ + aM))] ?_; (with_reducible refine (spec_number.calls (wrap64 (aJ + aM)) bV bW bX _ kI.out).mono ?_); rintro e kU ⟨rfl, hb⟩; refine ⟨_, rfl, ?_⟩; replace aA := A_ (bb (Z0 aA.out) hb); replace aB := A_ (bb (Z0 aB.out) hb); replace aC := A_ (bb (Z0 aC.out) hb); replace HB := A_ (bst Z25 hb); (try clear hb); obtain ⟨fG, fH, fI, fJ, fK, fL⟩ := C3 aC.out))
        refine bodyPost_ret (results_cell_row rfl _ _ aK 98 #[.int .i64 bV, .int .i64 bW, .string bX] (0, 0) _ rfl (bp0 aC.out) Try.underlying98 rfl (by kernel_rfl)) rfl ?_
        exact ⟨Z11, Z25⟩
       ·rw [if_neg a2] at H
        have bT : (a0 == 0) = false := beq_eq_false_iff_ne.mpr a2; have bU : (a0 != 0) = true := bne_iff_ne.mpr a2
        by_cases a3 : a0 = 1
        ·rw [if_pos a3] at H
         have bZ : (a0 == 1) = true := beq_iff_eq.mpr a3; have b0 : (a0 != 1) = false := bne_eq_false_iff_eq.mpr a3; clear a3; replace H := bS H; obtain ⟨⟨b1, b2, b3⟩, b4, H⟩ := H
         try dsimp only at H
         have kJ := A_ b4; clear b4; simp only [Option.some.injEq, Prod.mk.injEq] at H; obtain ⟨rfl, rfl, rfl⟩ := H; have jR := aH.out; have jS := aI.out; have jT := aD.out; have jU := aE.out; obtain ⟨fM, fN, fO, fP, fQ, fR⟩ := C3 aA.out; have jV := aF.out; have jW := aG.out; obtain ⟨fS, fT, fU, fV, fW, fX⟩ := C3 aB.out
         go_wp2_with (first | ((with_reducible refine gate_callee (f := 114) rfl ?_); refine gL 66 Try.func114 #[.int .i64 (wrap64 (aJ - aM))] ?_; (with_reducible refine (spec_number.calls (wrap64 (aJ - aM)) b1 b2 b3 _ kJ.out).mono ?_); rintro e kV ⟨rfl, hb⟩; refine ⟨_, rfl, ?_⟩; replace aA := A_ (bb (Z0 aA.out) hb); replace aB := A_ (bb (Z0 aB.out) hb); replace aC := A_ (bb (Z0 aC.out) hb); replace HB := A_ (bst Z25 hb); (try clear hb); obtain ⟨fY, fZ, f4, f5, f6, f7⟩ := C3 aC.out))
         refine bodyPost_ret (results_cell_row rfl _ _ aK 98 #[.int .i64 b1, .int .i64 b2, .string b3] (0, 0) _ rfl (bp0 aC.out) Try.underlying98 rfl (by kernel_rfl)) rfl ?_
         exact ⟨Z11, Z25⟩
        ·rw [if_neg a3] at H
         have bZ : (a0 == 1) = false := beq_eq_false_iff_ne.mpr a3; have b0 : (a0 != 1) = true := bne_iff_ne.mpr a3
         by_cases a4 : a0 = 2
         ·rw [if_pos a4] at H
          have b5 : (a0 == 2) = true := beq_iff_eq.mpr a4; have b6 : (a0 != 2) = false := bne_eq_false_iff_eq.mpr a4; clear a4; replace H := bS H; obtain ⟨⟨b7, b8, b9⟩, cA, H⟩ := H
          try dsimp only at H
          have kK := A_ cA; clear cA; simp only [Option.some.injEq, Prod.mk.injEq] at H; obtain ⟨rfl, rfl, rfl⟩ := H; have jX := aH.out; have jY := aI.out; have jZ := aD.out; have j1 := aE.out; obtain ⟨f8, f9, gA, gB, gC, gD⟩ := C3 aA.out; have j2 := aF.out; have j3 := aG.out; obtain ⟨gE, gF, gG, gH, gI, gJ⟩ := C3 aB.out
          go_wp2_with (first | ((with_reducible refine gate_callee (f := 114) rfl ?_); refine gL 75 Try.func114 #[.int .i64 (wrap64 (aJ * aM))] ?_; (with_reducible refine (spec_number.calls (wrap64 (aJ * aM)) b7 b8 b9 _ kK.out).mono ?_); rintro e kW ⟨rfl, hb⟩; refine ⟨_, rfl, ?_⟩; replace aA := A_ (bb (Z0 aA.out) hb); replace aB := A_ (bb (Z0 aB.out) hb); replace aC := A_ (bb (Z0 aC.out) hb); replace HB := A_ (bst Z25 hb); (try clear hb); obtain ⟨gK, gM, gN, gO, gP, gQ⟩ := C3 aC.out))
          refine bodyPost_ret (results_cell_row rfl _ _ aK 98 #[.int .i64 b7, .int .i64 b8, .string b9] (0, 0) _ rfl (bp0 aC.out) Try.underlying98 rfl (by kernel_rfl)) rfl ?_
          exact ⟨Z11, Z25⟩
         ·rw [if_neg a4] at H
          have b5 : (a0 == 2) = false := beq_eq_false_iff_ne.mpr a4; have b6 : (a0 != 2) = true := bne_iff_ne.mpr a4; replace H := bS H; obtain ⟨⟨cB, cC, cD⟩, cE, H⟩ := H
          try dsimp only at H
          have kL := A_ cE; clear cE; simp only [Option.some.injEq, Prod.mk.injEq] at H; obtain ⟨rfl, rfl, rfl⟩ := H; have j4 := aH.out; have j5 := aI.out; have j6 := aD.out; have j7 := aE.out; obtain ⟨gR, gS, gT, gU, gV, gW⟩ := C3 aA.out; have j8 := aF.out; have j9 := aG.out; obtain ⟨gX, gY, gZ, g3, g4, g5⟩ := C3 aB.out
          go_wp2_with (first | ((with_reducible refine gate_callee (f := 112) rfl ?_); refine gL 81 Try.func112 #[.bool (decide (aJ < aM))] ?_; (with_reducible refine (spec_boolean.calls (decide (aJ < aM)) cB cC cD _ kL.out).mono ?_); rintro e kX ⟨rfl, hb⟩; refine ⟨_, rfl, ?_⟩; replace aA := A_ (bb (Z0 aA.out) hb); replace aB := A_ (bb (Z0 aB.out) hb); replace aC := A_ (bb (Z0 aC.out) hb); replace HB := A_ (bst Z25 hb); (try clear hb); obtain ⟨g6, g7, g8, g9, hD, hG⟩ := C3 aC.out))
          refine bodyPost_ret (results_cell_row rfl _ _ aK 98 #[.int .i64 cB, .int .i64 cC, .string cD] (0, 0) _ rfl (bp0 aC.out) Try.underlying98 rfl (by kernel_rfl)) rfl ?_
          exact ⟨Z11, Z25⟩
      ·replace e3 := Bool.eq_false_iff.mpr e3
       subst e3; rw [if_neg (show ¬ (false = true) by decide)] at H; simp only [Option.some.injEq, Prod.mk.injEq] at H; obtain ⟨rfl, rfl, rfl⟩ := H; have kA := aE.out; have kB := aD.out; have kC := aG.out; have kD := aF.out; obtain ⟨hH, hI, hJ, hL, hO, hP⟩ := C3 aC.out
       go_wp2
       refine bodyPost_ret (results_cell_row rfl _ _ aK 98 #[.int .i64 0, .int .i64 0, .string (⟨#[]⟩ : ByteArray)] (0, 0) _ rfl (bp0 aC.out) Try.underlying98 rfl (by kernel_rfl)) rfl ?_
       exact ⟨Z11, Z25⟩
end Go.Proofs.Ytgbbcebjgpoioaa.PFnHistRedo
