/- Walks (lines of the print; no condition). -/
import Derived.Test.YtgbbcebjgpoioaaZFnHistRedoQFnHistRedox15
import Derived.Test.YtgbbcebjgpoioaaZFnHistRedoQFnHistRedox20
namespace Go.Proofs.Ytgbbcebjgpoioaa.PFnHistRedo
open Go.RowKit Go.Proofs.YtgbbcebjgpoioaaW.PrintWords Go.Proofs.YtgbbcebjgpoioaaW.PrintLast Go.Proofs.YtgbbcebjgpoioaaW.PrintMore
attribute [local go_sem] max2_int min2_int max_two min_two max_three min_three max_four min_four
set_option linter.unusedVariables false
set_option linter.unusedSimpArgs false
set_option maxHeartbeats 8000000
set_option maxRecDepth 100000
def spec_updated.f (k : Nat) (l0 : List (S98)) (aF : List (S96)) (aB : Int) (aD : List (S116)) (aG : Int) : Option ((List (S98))) := (some (([] : List (S98)) : List (S98))).bind fun aE => (if aE.length + l0.length < 4398046511104 then ((some (aE ++ l0 : List (S98))).bind fun aC => ((spec_applies.f k l0 aF aB aD aG).bind fun aH => (if aH = true then (if 2 ≤ 8796093022208 then ((spec_eval.f k aD ([] : List (S98)) l0 ([] : List Int) (List.replicate 2 z98)).bind fun aA => (if 0 ≤ aB then (if aB < (aC.length : Int) then (some (aC.set (aB : Int).toNat (⟨aA.1, aA.2.1, aA.2.2⟩ : S98))) else (none)) else (none))) else (none)) else (some aC)))) else (none))
def spec_updated.T3 : Bool × List (List Nat × List Nat) := (true, [([], []), ([], []), ([1], [1]), ([], []), ([3], [3]), ([], []), ([], []), ([5, 6], [5, 6]), ([4, 7], [4, 7]), ([0, 2, 0, 1, 2, 3, 4, 5, 6, 7, 8], [0, 2]), ([9, 8, 8, 0, 1, 2, 3, 4, 5, 6, 7, 8], [8, 9])])
def spec_updated.B3 : List Nat := [0, 0, 2, 0, 8, 0, 0, 96, 248, 511, 1023]
theorem spec_updated.tab3 : rtab .any (opsOf Try.f95 3) = spec_updated.T3 := by kernel_rfl
theorem spec_updated.bits3 : waitsOk spec_updated.T3.2 spec_updated.B3 = true := by kernel_rfl
theorem spec_updated.calls (k : Nat) (A0 : Option Addr) (c0 : Nat) (l0 : List (S98)) (aT : Option Addr) (aU : Nat) (aH : List (S96)) (aC : Int) (aM : Option Addr) (aN : Nat) (aG : List (S116)) (aK : Int) (r : List (S98)) (w : World) (cZ : Kd.C k98 w A0 l0.length l0) (hc0 : l0.length ≤ c0) (bE : Kd.C k96 w aT aH.length aH) (bF : aH.length ≤ aU) (bG : Kd.C k116 w aM aG.length aG) (bH : aG.length ≤ aN) (h : spec_updated.f k l0 aH aC aG aK = some r) :
  Calls Try.prog 95 #[.slice A0 l0.length c0, .agg #[.slice aT aH.length aU, .int .i64 aC, .slice aM aG.length aN, .int .i64 aK]] w fun e w' => ∃ dA : Value, e = .returned (dA) ∧ Kd.R k98 98 w' w.heap.size (fun _ => True) dA r ∧ Below w.heap.size w w' := by
 have dG := Try.underlying77; have dB := Try.underlying135; have dH := Try.underlying98; have bT := A_ cZ; have cL := A_ hc0; clear cZ hc0; have bI := A_ bE; have bJ := A_ bF; clear bE bF; have a4 := A_ bG; have a5 := A_ bH; clear bG bH; have HB := A_ (Below.refl w.heap.size w); have H := h; unfold spec_updated.f at H; clear h; obtain ⟨a1, a6⟩ : ∃ y_ : List (S98), y_ = (([] : List (S98))) := ⟨_, rfl⟩; replace H : (if a1.length + l0.length < 4398046511104 then ((some (a1 ++ l0 : List (S98))).bind fun aI => ((spec_applies.f k l0 aH aC aG aK).bind fun bO => (if bO = true then (if 2 ≤ 8796093022208 then ((spec_eval.f k aG ([] : List (S98)) l0 ([] : List Int) (List.replicate 2 z98)).bind fun a7 => (if 0 ≤ aC then (if aC < (aI.length : Int) then (some (aI.set (aC : Int).toNat (⟨a7.1, a7.2.1, a7.2.2⟩ : S98))) else (none)) else (none))) else (none)) else (some aI)))) else (none)) = some r := yH a6; have aV := A_ a6; clear a6
 by_cases c3 : a1.length + l0.length < 4398046511104
 ·rw [if_pos c3] at H
  have bU := A_ c3; clear c3; obtain ⟨aI, aW⟩ : ∃ y_ : List (S98), y_ = (a1 ++ l0) := ⟨_, rfl⟩
  first | rw [← aW, Option.bind_some] at H | rw [← aW] at H
  have bK := A_ aW; clear aW; replace H := bS H; obtain ⟨bO, dC, H⟩ := H
  try dsimp only at H
  have A4 := A_ dC; clear dC
  by_cases c5 : bO = true
  ·subst c5
   rw [if_pos rfl] at H
   by_cases c6 : 2 ≤ 8796093022208
   ·rw [if_pos c6] at H
    have dI := eq_true c6; have dJ := dt c6; clear c6; obtain ⟨bV, aX⟩ : ∃ y_ : List (S98), y_ = (List.replicate 2 z98) := ⟨_, rfl⟩
    first | rw [← aX, Option.bind_some] at H | rw [← aX] at H
    have bL := A_ aX; clear aX; replace H := bS H; obtain ⟨⟨a8, a9, bA⟩, dD, H⟩ := H
    try dsimp only at H
    have A7 := A_ dD; clear dD
    by_cases c8 : 0 ≤ aC
    ·rw [if_pos c8] at H
     have dK := dt c8; clear c8
     by_cases c9 : aC < (aI.length : Int)
     ·rw [if_pos c9] at H
      have dL := dt c9; clear c9; obtain ⟨dM, aY⟩ : ∃ y_ : List (S98), y_ = (aI.set (aC : Int).toNat (⟨a8, a9, bA⟩ : S98)) := ⟨_, rfl⟩
      first | rw [← aY, Option.bind_some] at H | rw [← aY] at H
      have bW := A_ aY; clear aY; obtain rfl := Option.some.inj H
      go_enter Try.func95, Try.ntmps95
      try go_wp2_with (first | ((with_reducible refine gate_dst (N := 3) rfl ?_); refine be (cs := #[.slice aT aH.length aU, .int .i64 aC, .slice aM aG.length aN, .int .i64 aK]) (t := 77) ?_; intro aP hg dX hbox hb; have aA := A_ hbox; have bB := A_ (gl hg (bz Z2)); have aE := bB; replace HB := A_ (bst Z2 hb); clear hb hbox hg) | ((with_reducible refine gate_dst (N := 6) rfl ?_); refine Kd.R_lit k98 _ 98 ?hg (N := 6) ?hd (xs := ([] : List (S98))) (inner := []) (ok := fun _ => True) (okp := fun _ => True) ?hr ?hp (fun _ hk => hk) trivial (Below.refl _ _) (Nat.le_refl _) (by simp) ?_; (case hd => rfl); (case hg => rfl); (case hr => exact Z48); (case hp => exact (Reps.none _ _)); intro bP dY bC hb hg_ hnew_; clear hg_ hnew_; (first | rw [← aV.out] at bC | (simp only [Int.reduceToNat] at bC; rw [← aV.out] at bC)); have aJ := A_ (Kd.R_lower bC (bz (Z3 aE.out))); replace aA := A_ (bb (Z0 aA.out) hb); replace HB := A_ (bst (Z3 aE.out) hb); clear hb bC) | ((with_reducible refine gate_builtin (b := .append) (xs := #[.tmp 6, .tmp 7]) rfl ?_); at_builtin; refine Kd.R_append_rows k98 (w0 := w) w.heap.size rfl (.tmp 6) (.tmp 7) 69 98 (.agg #[(.int .i64 0), (.int .i64 0), (.string ⟨#[]⟩)]) 32 rfl Try.underlying69 info98 rfl (by decide) (by omega) bP a1 l0 _ _ _ (fun _ => True) (fun _ => False) rfl rfl ?aO ?aR (fun _ _ h => h) (fun _ h => h.elim) ?aF ?aB ?aS ?aL ?_; (case aR => exact Z5 bT.out); (case aB => exact (Z3 aE.out)); (case aF => exact (fun _ _ => trivial)); (case aO => exact (Z12 aJ.out)); (case aS => exact (bz (Z3 aE.out))); (case aL => have := bU.out; omega); intro cM dZ ho hb hg hat; rw [← bK.out] at ho; replace aA := A_ (blk_grown (Z0 aA.out) hg (Kd.R_ne aJ.out aA.out (by decide))); replace HB := A_ hb; have aD := A_ ho; clear aJ; clear ho hb hg hat; obtain ⟨b5, b6, b7, b8, b9, cA, cB, cC⟩ := C4 aA.out) | ((with_reducible refine gate_callee (f := 106) rfl ?_); refine gL 11 Try.func106 #[.slice A0 l0.length c0, .agg #[.slice aT aH.length aU, .int .i64 aC, .slice aM aG.length aN, .int .i64 aK]] ?_; (with_reducible refine (spec_applies.calls k _ _ l0 _ _ aH aC _ _ aG aK true _ ?s1 cL.out ?s3 bJ.out ?s5 a5.out A4.out).mono ?_); (case s1 => exact Z5 bT.out); (case s3 => exact Z5 bI.out); (case s5 => exact Z5 a4.out); rintro e dN ⟨rfl, hb⟩; refine ⟨_, rfl, ?_⟩; replace aD := A_ (Rbl (Z12 aD.out) hb); replace aA := A_ (bb (Z0 aA.out) hb); replace HB := A_ (bst (Z3 aE.out) hb); (try clear hb)))
      replace aD := A_ (Kd.R_drew aD.out); replace aA := A_ (blk_drew aA.out); replace HB := A_ (below_drew1 HB.out)
      refine start_ (n := 11) (S := fun w' => w'.cell? ⟨aP, 0, none⟩ = some (.slice aT aH.length aU) ∧ w'.cell? ⟨aP, 1, none⟩ = some (.int .i64 aC) ∧ w'.cell? ⟨aP, 2, none⟩ = some (.slice aM aG.length aN) ∧ w'.cell? ⟨aP, 3, none⟩ = some (.int .i64 aK)) (ds := [10]) M67 (by kernel_rfl) rfl rfl ⟨(bc aA.out 0).trans rfl, (bc aA.out 1).trans rfl, (bc aA.out 2).trans rfl, (bc aA.out 3).trans rfl⟩ (fun hHeld => ?_); refine with_tabW spec_updated.tab3 spec_updated.bits3 (fun HT_ HW_ => ?_)
      generalize dN.drew = d0 at aD aA HB hHeld ⊢; refine pU 0 12 M68 ?_; refine pU 1 13 #[T,T,F,F,F,F,F,F,F,F,F] ?_; refine pU 3 15 #[T,T,F,T,F,F,F,F,F,F,F] ?_; refine pU 5 17 #[T,T,F,T,F,T,F,F,F,F,F] ?_; refine tU 2 14 #[T,T,T,T,F,T,F,F,F,F,F] ?_ (y := Z47); refine tU 4 16 #[T,T,T,T,T,T,F,F,F,F,F] ?_ (y := Z47)
      refine oU 6 (some 18) #[T,T,T,T,T,T,T,F,F,F,F] (fun K hK => ?_)
      refine Kd.R_make_step k98 _ 98 (by rfl) (N := 18) rfl 69 _ _ rfl 2 rfl rfl Try.underlying69 (.agg #[(.int .i64 0), (.int .i64 0), (.string ⟨#[]⟩)]) 32 info98 rfl (by decide) (by omega) z98 (ok := fun _ => True) (okp := fun _ => True) (k98_mkM _ _ _ z98 ) (fun _ hk => hk) trivial (by omega) (by omega) (Below.refl _ _) (Nat.le_refl _) ?_
      intro dO d1 a2 hb hg_ hnew_
      clear hg_ hnew_; (first | rw [← bL.out] at a2 | (simp only [Int.reduceToNat] at a2; rw [← bL.out] at a2)); have aQ := A_ (Kd.R_lower (Kd.R_new' a2 (Kd.R_lt (Z12 aD.out))) (bz (Z3 aE.out))); replace aD := A_ (Kd.R_elder' (Z12 aD.out) (Kd.R_base a2) hb); replace aA := A_ (bb (Z0 aA.out) hb); replace HB := A_ (bst (Z3 aE.out) hb); clear hb a2; obtain ⟨cN, cO, bX⟩ := Kd.R_slice aQ.out; (first | subst bX | (injection bX with dE dP dF; have dQ := dE.symm; have dR := dF.symm; clear dE dP dF; subst dQ; subst dR))
      refine hK.out _ _ ⟨(bc aA.out 0).trans rfl, (bc aA.out 1).trans rfl, (bc aA.out 2).trans rfl, (bc aA.out 3).trans rfl⟩ (fun hHeld => ?_)
      clear hK K
      refine norm_ (a' := ?_) ?_ ?_
      rotate_left; (·exact Z62); refine pU 7 19 M69 ?_
      refine oU 8 (some 20) M70 (fun K hK => ?_)
      refine goes_ Try.func107 (by kernel_rfl) rfl #[.slice aM aG.length aN, .agg #[.slice none 0 0, .slice A0 l0.length c0, .slice none 0 0, .slice cN bV.length cO]] (by rfl) rfl rfl Z23 ?_
      refine (spec_eval.calls k _ _ aG _ _ ([] : List (S98)) _ _ l0 _ _ ([] : List Int) _ _ bV a8 a9 bA _ ?s1 ?s2 ?s3 ?s4 ?s5 ?s6 ?s7 ?s8 ?s9 ?s10 A7.out).mono ?_
      (case s1 => exact Z5 a4.out)
      (case s2 => exact a5.out)
      (case s3 => exact Kd.C_nil _ _)
      (case s4 => exact Nat.le_refl _)
      (case s5 => exact Z5 bT.out)
      (case s6 => exact cL.out)
      (case s7 => exact Kd.C_nil _ _)
      (case s8 => exact Nat.le_refl _)
      (case s9 => exact Z43 aQ.out)
      (case s10 => exact (Kd.R_reads' aQ.out).2.1)
      rintro e d2 ⟨rfl, hb⟩
      refine ⟨_, rfl, ?_⟩
      replace aD := A_ (Rbl (Z12 aD.out) hb); replace aQ := A_ (Rbl (Z12 aQ.out) hb); replace aA := A_ (bb (Z0 aA.out) hb); replace HB := A_ (bst (Z3 aE.out) hb); (try clear hb); (try clear d3); (try clear hk); (try clear hi); have cP : 0 ≤ (aC : Int) := odt; have cQ : (aC : Int) < ((aI.length : Int) : Int) := odt; obtain ⟨a3, dS, bY, bZ, cR, dT, b0⟩ := Kd.R_form aD.out (by omega); (first | cases bY | (injection bY with ea_ en_ ec_; (first | subst ea_ | (injection ea_ with ea_; subst ea_)); subst ec_; clear en_)); have bQ := A_ bZ; have dU := A_ b0; clear bZ cR b0; obtain ⟨dV, b1, b2, aZ, a0⟩ := Kd.R_elem aD.out z98 (aC : Int) cP cQ; obtain rfl := k98_openM b2; have cS : World.cell? _ ⟨a3, (aC : Int).toNat * 3, none⟩ = some (.int .i64 ((rd_T98 aI aC).f0)) := aZ 0 _ rfl; have cT : World.cell? _ ⟨a3, (aC : Int).toNat * 3 + 1, none⟩ = some (.int .i64 ((rd_T98 aI aC).f1)) := aZ 1 _ rfl; have cU : World.cell? _ ⟨a3, (aC : Int).toNat * 3 + 2, none⟩ = some (.string ((rd_T98 aI aC).f2)) := aZ 2 _ rfl; have cV : World.frozen? _ ⟨a3, (aC : Int).toNat * 3, none⟩ = false := a0 0; have cW : World.frozen? _ ⟨a3, (aC : Int).toNat * 3 + 1, none⟩ = false := a0 1; have cX : World.frozen? _ ⟨a3, (aC : Int).toNat * 3 + 2, none⟩ = false := a0 2; (try clear b2); clear b1 aZ a0; replace cP := eq_true cP; replace cQ := eq_true cQ; obtain ⟨dW, bM, b3, bN, b4⟩ := Kd.R_elem aD.out z98 (aC : Int) (odt) (by have h_ : (aC : Int) < ((aI.length : Int) : Int) := odt; first | exact h_ | (have e_ := (Kd.R_reads' aD.out).1; omega) | simpa using h_); obtain rfl := k98_openM b3; have bR := (Kd.R_seg aD.out (aC : Int) (odt) (by have h_ : (aC : Int) < ((aI.length : Int) : Int) := odt; first | exact h_ | (have e_ := (Kd.R_reads' aD.out).1; omega) | simpa using h_) (seg := [.int .i64 a8, .int .i64 a9, .string bA]) (j := 0) bM bN (show 3 ≤ 3 from by decide) (x' := (⟨a8, a9, bA⟩ : S98)) (k98_mkM _ _ _ (⟨a8, a9, bA⟩ : S98) ) (fun _ hk => hk)).1; rw [← bW.out] at bR; have cY := A_ bR; (try clear b3); clear bM bN b4 bR
      refine hK.out _ _ ⟨(bc aA.out 0).trans rfl, (bc aA.out 1).trans rfl, (bc aA.out 2).trans rfl, (bc aA.out 3).trans rfl⟩ (fun hHeld => ?_)
      clear hK K
      refine norm_ (a' := ?_) ?_ ?_
      rotate_left
      ·show Act.put _ (some 20) _ = _
       simp only [Act.put, List.setIfInBounds_toArray, List.set_cons_zero, List.set_cons_succ, i64_w, i32_w]
       rfl
      refine pU 9 21 M71 ?_
      refine last_ (i := 10) (N := none) M72 rfl rfl (one_of HT_.out (by kernel_rfl)) (by decide) (fun K hK => ?_)
      refine skip_ (w1 := ?_) (by rfl) rfl ?_ ?_
      rotate_left
      ·go_simp
       rfl
      refine hK.out _ _ ?_
      clear hK K
      refine done_ (done_of HT_.out (by kernel_rfl)) ?_
      try go_wp2
      go_ret
      exact ⟨_, Z11, Z90 cY.out, by repeat (first | (with_reducible first | exact HB.out | apply below_alloc | apply pw_below_drewN | apply below_drew1 | refine below_set ?_ bQ.out | refine below_set ?_ bQ.out | refine below_set ?_ bQ.out | refine below_set ?_ aE.out) | exact HB.out)⟩
     ·rw [if_neg c9] at H
      exact absurd H (by simp)
    ·rw [if_neg c8] at H
     exact absurd H (by simp)
   ·rw [if_neg c6] at H
    exact absurd H (by simp)
  ·replace c5 := Bool.eq_false_iff.mpr c5
   subst c5; rw [if_neg (show ¬ (false = true) by decide)] at H; obtain rfl := Option.some.inj H
   go_enter Try.func95, Try.ntmps95
   go_wp2_with (first | ((with_reducible refine gate_dst (N := 3) rfl ?_); refine be (cs := #[.slice aT aH.length aU, .int .i64 aC, .slice aM aG.length aN, .int .i64 aK]) (t := 77) ?_; intro aP hg d4 hbox hb; have aA := A_ hbox; have bB := A_ (gl hg (bz Z2)); have aE := bB; replace HB := A_ (bst Z2 hb); clear hb hbox hg) | ((with_reducible refine gate_dst (N := 6) rfl ?_); refine Kd.R_lit k98 _ 98 ?hg (N := 6) ?hd (xs := ([] : List (S98))) (inner := []) (ok := fun _ => True) (okp := fun _ => True) ?hr ?hp (fun _ hk => hk) trivial (Below.refl _ _) (Nat.le_refl _) (by simp) ?_; (case hd => rfl); (case hg => rfl); (case hr => exact Z48); (case hp => exact (Reps.none _ _)); intro bP d5 bD hb hg_ hnew_; clear hg_ hnew_; (first | rw [← aV.out] at bD | (simp only [Int.reduceToNat] at bD; rw [← aV.out] at bD)); have aJ := A_ (Kd.R_lower bD (bz (Z3 aE.out))); replace aA := A_ (bb (Z0 aA.out) hb); replace HB := A_ (bst (Z3 aE.out) hb); clear hb bD) | ((with_reducible refine gate_builtin (b := .append) (xs := #[.tmp 6, .tmp 7]) rfl ?_); at_builtin; refine Kd.R_append_rows k98 (w0 := w) w.heap.size rfl (.tmp 6) (.tmp 7) 69 98 (.agg #[(.int .i64 0), (.int .i64 0), (.string ⟨#[]⟩)]) 32 rfl Try.underlying69 info98 rfl (by decide) (by omega) bP a1 l0 _ _ _ (fun _ => True) (fun _ => False) rfl rfl ?aO ?aR (fun _ _ h => h) (fun _ h => h.elim) ?aF ?aB ?aS ?aL ?_; (case aR => exact Z5 bT.out); (case aB => exact (Z3 aE.out)); (case aF => exact (fun _ _ => trivial)); (case aO => exact (Z12 aJ.out)); (case aS => exact (bz (Z3 aE.out))); (case aL => have := bU.out; omega); intro cM d6 ho hb hg hat; rw [← bK.out] at ho; replace aA := A_ (blk_grown (Z0 aA.out) hg (Kd.R_ne aJ.out aA.out (by decide))); replace HB := A_ hb; have aD := A_ ho; clear aJ; clear ho hb hg hat; obtain ⟨cD, cE, cF, cG, cH, cI, cJ, cK⟩ := C4 aA.out) | ((with_reducible refine gate_callee (f := 106) rfl ?_); refine gL 11 Try.func106 #[.slice A0 l0.length c0, .agg #[.slice aT aH.length aU, .int .i64 aC, .slice aM aG.length aN, .int .i64 aK]] ?_; (with_reducible refine (spec_applies.calls k _ _ l0 _ _ aH aC _ _ aG aK false _ ?s1 cL.out ?s3 bJ.out ?s5 a5.out A4.out).mono ?_); (case s1 => exact Z5 bT.out); (case s3 => exact Z5 bI.out); (case s5 => exact Z5 a4.out); rintro e d7 ⟨rfl, hb⟩; refine ⟨_, rfl, ?_⟩; replace aD := A_ (Rbl (Z12 aD.out) hb); replace aA := A_ (bb (Z0 aA.out) hb); replace HB := A_ (bst (Z3 aE.out) hb); (try clear hb)))
   go_ret
   exact ⟨_, Z11, Z12 aD.out, Z3 aE.out⟩
 ·rw [if_neg c3] at H
  exact absurd H (by simp)
def spec_storeUpdated.f (k : Nat) (l0 : List (S72)) (aC : List (S96)) (aD : Int) (aE : List (S116)) (aF : Int) : Option ((List (S72))) := (spec_copyStore.f k l0).bind fun aB => ((spec_cellAt.f k aB aC).bind fun aA => (if aA.2 = true then (if 0 ≤ aA.1 then (if aA.1 < (aB.length : Int) then ((spec_updated.f k ((rd_T72 aB aA.1).f1) aC aD aE aF).bind fun aG => (some (aB.set (aA.1 : Int).toNat (⟨(rd_T72 aB aA.1).f0, aG⟩ : S72)))) else (none)) else (none)) else (some aB)))
def spec_storeUpdated.T4 : Bool × List (List Nat × List Nat) := (true, [([], []), ([], []), ([], []), ([], []), ([2, 3], [2, 3]), ([4], [4]), ([5], [5]), ([], []), ([6, 7], [6, 7]), ([0, 1, 0, 1, 2, 3, 4, 5, 6, 7, 8], [0, 1]), ([9, 0, 1, 2, 3, 4, 5, 6, 7, 8], [9]), ([10, 8, 8, 0, 1, 2, 3, 4, 5, 6, 7, 8], [8, 10])])
def spec_storeUpdated.B4 : List Nat := [0, 0, 0, 0, 12, 28, 60, 0, 252, 511, 1023, 2047]
theorem spec_storeUpdated.tab4 : rtab .any (opsOf Try.f79 4) = spec_storeUpdated.T4 := by kernel_rfl
theorem spec_storeUpdated.bits4 : waitsOk spec_storeUpdated.T4.2 spec_storeUpdated.B4 = true := by kernel_rfl
theorem spec_storeUpdated.calls (k : Nat) (A0 : Option Addr) (c0 : Nat) (l0 : List (S72)) (aO : Option Addr) (aP : Nat) (aH : List (S96)) (aW : Int) (aY : Option Addr) (aZ : Nat) (aN : List (S116)) (aX : Int) (r : List (S72)) (w : World) (dQ : Kd.C k72 w A0 l0.length l0) (hc0 : l0.length ≤ c0) (bJ : Kd.C k96 w aO aH.length aH) (bK : aH.length ≤ aP) (bL : Kd.C k116 w aY aN.length aN) (bM : aN.length ≤ aZ) (h : spec_storeUpdated.f k l0 aH aW aN aX = some r) :
  Calls Try.prog 79 #[.slice A0 l0.length c0, .agg #[.slice aO aH.length aP, .int .i64 aW, .slice aY aN.length aZ, .int .i64 aX]] w fun e w' => ∃ dR : Value, e = .returned (dR) ∧ Kd.N k72 72 w' w.heap.size (fun k_ => (w.heap.size ≤ k_)) dR r ∧ Below w.heap.size w w' := by
 have eD := Try.underlying77; have dS := A_ dQ; have dT := A_ hc0; clear dQ hc0; have a7 := A_ bJ; have a8 := A_ bK; clear bJ bK; have b3 := A_ bL; have b4 := A_ bM; clear bL bM; have HB := A_ (Below.refl w.heap.size w); have H := h; unfold spec_storeUpdated.f at H; clear h; replace H := bS H; obtain ⟨aD, dU, H⟩ := H
 try dsimp only at H
 have A3 := A_ dU; clear dU; replace H := bS H; obtain ⟨⟨aC, cZ⟩, dV, H⟩ := H
 try dsimp only at H
 have A4 := A_ dV; clear dV
 by_cases c5 : cZ = true
 ·subst c5
  rw [if_pos rfl] at H
  by_cases c6 : 0 ≤ aC
  ·rw [if_pos c6] at H
   have eE := dt c6; clear c6
   by_cases c7 : aC < (aD.length : Int)
   ·rw [if_pos c7] at H
    have eF := dt c7; clear c7; replace H := bS H; obtain ⟨a6, dW, H⟩ := H
    try dsimp only at H
    have A8 := A_ dW; clear dW; obtain ⟨eG, a1⟩ : ∃ y_ : List (S72), y_ = (aD.set (aC : Int).toNat (⟨(rd_T72 aD aC).f0, a6⟩ : S72)) := ⟨_, rfl⟩
    first | rw [← a1, Option.bind_some] at H | rw [← a1] at H
    have b5 := A_ a1; clear a1; obtain rfl := Option.some.inj H
    go_enter Try.func79, Try.ntmps79
    try go_wp2_with (first | ((with_reducible refine gate_dst (N := 3) rfl ?_); refine be (cs := #[.slice aO aH.length aP, .int .i64 aW, .slice aY aN.length aZ, .int .i64 aX]) (t := 77) ?_; intro aE hg eL hbox hb; have aA := A_ hbox; have a9 := A_ (gl hg (bz Z2)); have aF := a9; replace HB := A_ (bst Z2 hb); clear hb hbox hg) | ((with_reducible refine gate_callee (f := 30) rfl ?_); refine gL 9 Try.func30 #[.slice A0 l0.length c0] ?_; (with_reducible refine (spec_copyStore.calls k _ _ l0 aD _ ?s1 dT.out A3.out).mono ?_); (case s1 => exact Z5 dS.out); rintro e bT ⟨dA, rfl, ho0, hb⟩; refine ⟨_, rfl, ?_⟩; have aB := A_ (Kd.N_lower (Nm (ok' := fun k_ => (w.heap.size ≤ k_) ∧ k_ ≠ aE) (Kd.S_N (Kd.S_bound ho0)) (fun k_ hk_ => ⟨(Nat.le_trans (bz (Z3 aF.out)) hk_.2.1), (Kd.freshB (Z0 aA.out) k_ hk_.2.1)⟩)) (bz (Z3 aF.out))); replace aA := A_ (bb (Z0 aA.out) hb); replace HB := A_ (bst (Z3 aF.out) hb); (try clear hb); (try clear ho0); obtain ⟨cE, cF, cG, cH, cI, cJ, cK, cL⟩ := C4 aA.out; obtain ⟨b6, bE, dB⟩ := Kd.N_slice aB.out; subst dB) | ((with_reducible refine gate_callee (f := 74) rfl ?_); refine gL 14 Try.func74 #[.slice b6 aD.length bE, .slice aO aH.length aP] ?_; (with_reducible refine (spec_cellAt.calls k _ _ aD _ _ aH aC true _ ?s1 ?s2 ?s3 a8.out A4.out).mono ?_); (case s1 => exact Z35 aB.out); (case s2 => exact Z86 aB.out); (case s3 => exact Z5 a7.out); rintro e w' ⟨rfl, ⟨nd, rfl⟩⟩; refine ⟨_, rfl, ?_⟩; (try (rw [drewN_self bT]; generalize hq_ : World.drewN bT _ = bT; have dX : Aside0 (Kd.N k72 72 bT w.heap.size (fun k_ => (w.heap.size ≤ k_) ∧ k_ ≠ aE) (.slice b6 aD.length bE) aD) := ⟨by rw [← hq_]; exact (Z8 aB.out)⟩; have dY : Aside0 (bT.heap[aE]? = some (.cells #[.slice aO aH.length aP, .int .i64 aW, .slice aY aN.length aZ, .int .i64 aX] 77 (0, 0))) := ⟨by rw [← hq_]; exact (Z0 aA.out)⟩; have dZ : Aside0 (Below w.heap.size w bT) := ⟨by rw [← hq_]; exact (Z3 aF.out)⟩; clear aB aA HB hq_; have aB := dX; have aA := dY; have HB := dZ; clear dX dY dZ))))
    replace aB := A_ (Kd.N_drew aB.out); replace aA := A_ (blk_drew aA.out); replace HB := A_ (below_drew1 HB.out); have bF : 0 ≤ (aC : Int) := odt; have bG : aC < (aD.length : Int) := odt; obtain ⟨bA, bU, bV, bB, bC, dC, aI, aJ, a2, a3, a4, a5⟩ := at_T72 (Kd.N_reads' aB.out).2.2 aC bF bG; cases dC; obtain ⟨d0, bW, bX, a0⟩ := Kd.N_get aB.out z72 aC bF (by first | exact bG | exact odt | (have e_ := (Kd.N_reads' aB.out).1; omega)); obtain ⟨cM, cN, cO, cP, rfl, aQ, aR, aS, aT⟩ := k72_openF bX; have aK := a0 0 _ rfl; rw [Nat.add_zero] at aK; replace aK := Option.some.inj (aK.symm.trans aI); injection aK with hva_ hvn_ hvc_; rw [hva_] at aR; rw [hvc_] at aQ; have aU := A_ (show Kd.V k96 96 _ w.heap.size _ _ ((rd_T72 aD aC).f0) from Kd.V_mk aQ aR); clear hva_ hvn_ hvc_ aR aQ; have aL := a0 1 _ rfl; rw [add_field _ _ 1 (by omega)] at aL; replace aL := Option.some.inj (aL.symm.trans aJ); injection aL with hva_ hvn_ hvc_; rw [hva_] at aT; rw [hvc_] at aS; have aV := A_ (show Kd.V k98 98 _ w.heap.size _ _ ((rd_T72 aD aC).f1) from Kd.V_mk aS aT); clear hva_ hvn_ hvc_ aT aS; clear a0 bW; have aM := A_ a3; have cQ := A_ a2; clear a3 a2; have aG := A_ a5
    have bH := A_ a4; clear a5 a4; replace bF := eq_true bF; replace bG := eq_true bG
    refine start_ (n := 12) (S := fun w' => w'.cell? ⟨aE, 0, none⟩ = some (.slice aO aH.length aP) ∧ w'.cell? ⟨aE, 1, none⟩ = some (.int .i64 aW) ∧ w'.cell? ⟨aE, 2, none⟩ = some (.slice aY aN.length aZ) ∧ w'.cell? ⟨aE, 3, none⟩ = some (.int .i64 aX) ∧ w'.cell? (bA.add ((aC).toNat * 2)) = some (.slice bU ((rd_T72 aD aC).f0).length bV) ∧ w'.cell? ⟨(bA.add ((aC).toNat * 2)).block, (bA.add ((aC).toNat * 2)).off + 1, none⟩ = some (.slice bB ((rd_T72 aD aC).f1).length bC)) (ds := [11]) M73 (by kernel_rfl) rfl rfl ⟨(bc aA.out 0).trans rfl, (bc aA.out 1).trans rfl, (bc aA.out 2).trans rfl, (bc aA.out 3).trans rfl, aI, aJ⟩ (fun hHeld => ?_); refine with_tabW spec_storeUpdated.tab4 spec_storeUpdated.bits4 (fun HT_ HW_ => ?_)
    generalize bT.drew = eM at aB aA HB aU aV aM aG aI aJ hHeld ⊢; refine pU 0 18 M74 ?_; refine pU 1 19 M75 ?_; refine pU 2 20 M76 ?_; refine pU 3 21 #[T,T,T,T,F,F,F,F,F,F,F,F] ?_; refine pU 4 22 #[T,T,T,T,T,F,F,F,F,F,F,F] ?_; refine pU 5 23 #[T,T,T,T,T,T,F,F,F,F,F,F] ?_; refine tU 6 24 M77 ?_ (y := Z83); refine tU 7 25 M78 ?_ (y := Z83)
    refine oU 8 (some 26) M79 (fun K hK => ?_)
    refine goes_ Try.func95 (by kernel_rfl) rfl #[.slice bB ((rd_T72 aD aC).f1).length bC, .agg #[.slice aO aH.length aP, .int .i64 aW, .slice aY aN.length aZ, .int .i64 aX]] (by rfl) rfl rfl Z23 ?_
    with_reducible refine (spec_updated.calls k _ _ ((rd_T72 aD aC).f1) _ _ aH aW _ _ aN aX a6 _ ?s1 ?s2 ?s3 ?s4 ?s5 ?s6 A8.out).mono ?_
    (case s1 => repeat (first | exact (by repeat (first | (with_reducible exact aG.out) | (with_reducible refine Kd.C_alloc ?_ _) | (with_reducible refine Kd.C_drewN ?_ _) | (with_reducible refine Kd.C_drew ?_) | exact aG.out)) | (with_reducible refine Kd.C_alloc ?_ _) | (with_reducible refine Kd.C_drewN ?_ _) | (with_reducible refine Kd.C_drew ?_)))
    (case s2 => exact bH.out)
    (case s3 => exact Z5 a7.out)
    (case s4 => exact a8.out)
    (case s5 => exact Z5 b3.out)
    (case s6 => exact b4.out)
    rintro e eN ⟨eH, rfl, ho0, hb⟩
    have dD := (hb.cell (World.block_lt_of_cell? _ _ (hHeld.2.2.2.2.1))).trans (hHeld.2.2.2.2.1); have dE := (hb.cell (World.block_lt_of_cell? _ _ (hHeld.2.2.2.2.2))).trans (hHeld.2.2.2.2.2)
    refine ⟨_, rfl, ?_⟩
    replace aB := A_ (Kd.N_elder' (Z8 aB.out) (Kd.R_base ho0) hb); replace aU := A_ (Kd.V_elder' (Z22 aU.out) (Kd.R_base ho0) hb); replace aV := A_ (Kd.V_elder' (Z22 aV.out) (Kd.R_base ho0) hb); have bD := A_ (Kd.R_lower (Kd.R_newM (M := fun k_ => (w.heap.size ≤ k_)) ho0 (bz (Z3 aF.out)) (fun k_ h_ => h_)) (bz (Z3 aF.out))); replace aA := A_ (bb (Z0 aA.out) hb); replace aM := A_ (Kd.C_below (by repeat (first | (with_reducible exact aM.out) | (with_reducible refine Kd.C_alloc ?_ _) | (with_reducible refine Kd.C_drewN ?_ _) | (with_reducible refine Kd.C_drew ?_) | exact aM.out)) hb); replace aG := A_ (Kd.C_below (by repeat (first | (with_reducible exact aG.out) | (with_reducible refine Kd.C_alloc ?_ _) | (with_reducible refine Kd.C_drewN ?_ _) | (with_reducible refine Kd.C_drew ?_) | exact aG.out)) hb); replace HB := A_ (bst (Z3 aF.out) hb); (try clear hb); (try clear eO); (try clear hk); (try clear hi); (try clear ho0); obtain ⟨bN, bO, b7⟩ := Kd.R_slice bD.out; subst b7; have p9 : 0 ≤ (aC : Int) := odt; have q9 : (aC : Int) < ((aD.length : Int) : Int) := odt; obtain ⟨bP, eP, d1, d2, eI, eQ, d3⟩ := Kd.N_form aB.out (by omega); (first | cases d1 | (injection d1 with ea_ en_ ec_; (first | subst ea_ | (injection ea_ with ea_; subst ea_)); subst ec_; clear en_)); have eJ := A_ d2; have eR := A_ d3; clear d2 eI d3; (first | simp only [add_plain] at aI | skip); (first | simp only [add_plain] at aJ | skip); obtain ⟨eS, dF, d4, bY, bZ⟩ := Kd.N_elem aB.out z72 (aC : Int) p9 q9; obtain ⟨b8, b9, cA, cB, rfl, d5, d6, d7, d8⟩ := k72_openF d4; have d9 : World.cell? _ ⟨bP, (aC : Int).toNat * 2, none⟩ = some (.slice b8 ((rd_T72 aD aC).f0).length b9) := bY 0 _ rfl; have eA : World.cell? _ ⟨bP, (aC : Int).toNat * 2 + 1, none⟩ = some (.slice cA ((rd_T72 aD aC).f1).length cB) := bY 1 _ rfl; have eB : World.frozen? _ ⟨bP, (aC : Int).toNat * 2, none⟩ = false := bZ 0; have eC : World.frozen? _ ⟨bP, (aC : Int).toNat * 2 + 1, none⟩ = false := bZ 1; (try clear d4); clear dF bY bZ; replace p9 := eq_true p9; replace q9 := eq_true q9; have bI := A_ (show Kd.N k72 72 _ w.heap.size (fun k_ => (w.heap.size ≤ k_) ∧ some k_ ≠ ((.slice bN a6.length bO) : Value).ownBlock ∧ k_ ≠ aE) (.slice (some ⟨bP, 0, none⟩) aD.length bE) aD from (Nm (aB.out) (fun k_ hk => ⟨hk.1.1, ⟨hk.2, hk.1.2⟩⟩))); replace bI := A_ (show Kd.N k72 72 _ w.heap.size (fun k_ => (w.heap.size ≤ k_) ∧ k_ ≠ aE) (.slice (some ⟨bP, 0, none⟩) aD.length bE) aD from Nm bI.out (fun k_ hk => ⟨hk.1, hk.2.2⟩)); obtain ⟨eK, bQ, cC, bR, cD⟩ := Kd.N_elem bI.out z72 (aC : Int) (odt) (by have h_ : (aC : Int) < ((aD.length : Int) : Int) := odt; first | exact h_ | (have e_ := (Kd.N_reads' aB.out).1; omega) | simpa using h_); obtain ⟨dG, dH, dI, dJ, rfl, b0, b1, dK, dL⟩ := k72_openF cC
    have b2 := (Kd.N_seg bI.out (aC : Int) (odt) (by have h_ : (aC : Int) < ((aD.length : Int) : Int) := odt; first | exact h_ | (have e_ := (Kd.N_reads' aB.out).1; omega) | simpa using h_) (seg := [(.slice bN a6.length bO)]) (j := 1) bQ bR (show 2 ≤ 2 from by decide) (x' := (⟨(rd_T72 aD aC).f0, a6⟩ : S72)) (k72_mkF _ _ (⟨(rd_T72 aD aC).f0, a6⟩ : S72) b0 b1 (Kd.R_reads' (Rm (ok' := (fun k_ => ((fun k_ => (w.heap.size ≤ k_) ∧ k_ ≠ aE)) k_ ∧ k_ ≠ bP)) (Kd.R_types (Kd.R_apart' (bD.out) (Kd.N_typed aB.out) (by decide)) aA.out (by decide)) (fun k_ hk => ⟨⟨hk.1.1.1, hk.2⟩, fun e_ => (hk.1.2) (by rw [e_]; rfl)⟩))).2.1 (Kd.R_F (Rm (ok' := (fun k_ => ((fun k_ => (w.heap.size ≤ k_) ∧ k_ ≠ aE)) k_ ∧ k_ ≠ bP)) (Kd.R_types (Kd.R_apart' (bD.out) (Kd.N_typed aB.out) (by decide)) aA.out (by decide)) (fun k_ hk => ⟨⟨hk.1.1.1, hk.2⟩, fun e_ => (hk.1.2) (by rw [e_]; rfl)⟩)))) (fun _ hk => hk)).1; rw [← b5.out] at b2; have dM := A_ b2; (try clear cC); clear bQ bR cD b2
    refine hK.out _ _ ⟨(bc aA.out 0).trans rfl, (bc aA.out 1).trans rfl, (bc aA.out 2).trans rfl, (bc aA.out 3).trans rfl, dD, dE⟩ (fun hHeld => ?_)
    clear hK K
    refine norm_ (a' := ?_) ?_ ?_
    rotate_left
    ·show Act.put _ (some 26) _ = _
     simp only [Act.put, List.setIfInBounds_toArray, List.set_cons_zero, List.set_cons_succ, i64_w, i32_w]
     rfl
    refine pU 9 27 M80 ?_; refine pU 10 28 M81 ?_
    refine last_ (i := 11) (N := none) M82 rfl rfl (one_of HT_.out (by kernel_rfl)) (by decide) (fun K hK => ?_)
    refine skip_ (w1 := ?_) (by rfl) rfl ?_ ?_
    rotate_left
    ·go_simp
     rfl
    refine hK.out _ _ ?_
    clear hK K
    refine done_ (done_of HT_.out (by kernel_rfl)) ?_
    try go_wp2
    go_ret
    exact ⟨_, Z11, Z92 dM.out, Z4 eJ.out aF.out⟩
   ·rw [if_neg c7] at H
    exact absurd H (by simp)
  ·rw [if_neg c6] at H
   exact absurd H (by simp)
 ·replace c5 := Bool.eq_false_iff.mpr c5
  subst c5; rw [if_neg (show ¬ (false = true) by decide)] at H; obtain rfl := Option.some.inj H
  go_enter Try.func79, Try.ntmps79
  go_wp2_with (first | ((with_reducible refine gate_dst (N := 3) rfl ?_); refine be (cs := #[.slice aO aH.length aP, .int .i64 aW, .slice aY aN.length aZ, .int .i64 aX]) (t := 77) ?_; intro aE hg eT hbox hb; have aA := A_ hbox; have a9 := A_ (gl hg (bz Z2)); have aF := a9; replace HB := A_ (bst Z2 hb); clear hb hbox hg) | ((with_reducible refine gate_callee (f := 30) rfl ?_); refine gL 9 Try.func30 #[.slice A0 l0.length c0] ?_; (with_reducible refine (spec_copyStore.calls k _ _ l0 aD _ ?s1 dT.out A3.out).mono ?_); (case s1 => exact Z5 dS.out); rintro e eU ⟨dA, rfl, ho0, hb⟩; refine ⟨_, rfl, ?_⟩; have aB := A_ (Kd.N_lower (Nm (ok' := fun k_ => (w.heap.size ≤ k_) ∧ k_ ≠ aE) (Kd.S_N (Kd.S_bound ho0)) (fun k_ hk_ => ⟨(Nat.le_trans (bz (Z3 aF.out)) hk_.2.1), (Kd.freshB (Z0 aA.out) k_ hk_.2.1)⟩)) (bz (Z3 aF.out))); replace aA := A_ (bb (Z0 aA.out) hb); replace HB := A_ (bst (Z3 aF.out) hb); (try clear hb); (try clear ho0); obtain ⟨cR, cS, cT, cU, cV, cW, cX, cY⟩ := C4 aA.out; obtain ⟨dN, dO, dP⟩ := Kd.N_slice aB.out; subst dP) | ((with_reducible refine gate_callee (f := 74) rfl ?_); refine gL 14 Try.func74 #[.slice dN aD.length dO, .slice aO aH.length aP] ?_; (with_reducible refine (spec_cellAt.calls k _ _ aD _ _ aH aC false _ ?s1 ?s2 ?s3 a8.out A4.out).mono ?_); (case s1 => exact Z35 aB.out); (case s2 => exact Z86 aB.out); (case s3 => exact Z5 a7.out); rintro e w' ⟨rfl, ⟨nd, rfl⟩⟩; refine ⟨_, rfl, ?_⟩))
  go_ret
  exact ⟨_, Z11, Z92 aB.out, Z3 aF.out⟩
def spec_storeRun.l0 : Nat → List (S72) → List (S77) → Int → Option ((List (S72)))
 | 0, _, _, _ => none
 | k + 1, x0, x1, x5 => if x5 < (x1.length : Int) then (if 0 ≤ x5 then ((spec_storeUpdated.f k x0 ((rd_T77 x1 x5).f0) ((rd_T77 x1 x5).f1) ((rd_T77 x1 x5).f2) ((rd_T77 x1 x5).f3)).bind fun aA => (spec_storeRun.l0 k aA x1 (wrap64 (x5 + 1)))) else (none)) else (some x0)
def spec_storeRun.f (k : Nat) (l0 : List (S72)) (l1 : List (S77)) : Option ((List (S72))) := spec_storeRun.l0 k l0 l1 0
theorem spec_storeRun.calls (k : Nat) (aV : Nat → Prop) (A0 : Option Addr) (c0 : Nat) (l0 : List (S72)) (A1 : Option Addr) (c1 : Nat) (l1 : List (S77)) (r : List (S72)) (w : World) (hs0 : Kd.V k72 72 w w.heap.size (fun k_ => aV k_) (.slice A0 l0.length c0) l0) (hr1 : Kd.C k77 w A1 l1.length l1) (a0 : l1.length ≤ c1) (h : spec_storeRun.f k l0 l1 = some r) :
  Calls Try.prog 54 #[.slice A0 l0.length c0, .slice A1 l1.length c1] w fun e w' => ∃ a1 : Value, e = .returned (a1) ∧ Kd.V k72 72 w' w.heap.size (fun k_ => (aV k_ ∨ w.heap.size ≤ k_)) a1 r ∧ Below w.heap.size w w' := by
 have a5 := Try.underlying77; have a6 := A_ (show Kd.V k72 72 w w.heap.size (fun k_ => (aV k_ ∨ w.heap.size ≤ k_)) (.slice A0 l0.length c0) l0 from Vm hs0 (fun k_ hk => .inl hk)); have a7 := A_ hr1; have bD := A_ a0; clear hr1 a0; have HB := A_ (Below.refl w.heap.size w); have H := h; unfold spec_storeRun.f at H; clear h; have H' := A_ H; clear H
 go_enter Try.func54, Try.ntmps54
 go_wp2
 go_loopg [0, 5] k (fun kq v0 v5 w' => ∃ (aK : List (S72)) (aA : Int), v5 = .int .i64 aA ∧ Aside0 (spec_storeRun.l0 kq aK l1 aA = some r) ∧ Aside0 (kq ≤ k) ∧ Aside0 (Kd.V k72 72 w' w.heap.size (fun k_ => (aV k_ ∨ w.heap.size ≤ k_)) v0 aK) ∧ Aside0 (Below w.heap.size w w'))
 case atStart => exact ⟨(l0), (0), Z26, H', ⟨Nat.le_refl _⟩, ⟨Z22 a6.out⟩, ⟨Z2⟩⟩
 case round =>
  clear H'; try clear c1
  obtain ⟨aK, aA, rfl, HA, a2, aJ, HB⟩ := hrel
  cases gk with
  | zero => exact absurd HA.out (by simp [spec_storeRun.l0])
  | succ k1 =>
   have H := HA.out; clear HA; simp only [spec_storeRun.l0] at H
   by_cases c3 : aA < (l1.length : Int)
   ·rw [if_pos c3] at H
    have aY := dt c3; clear c3
    by_cases c4 : 0 ≤ aA
    ·rw [if_pos c4] at H
     have a8 := dt c4; clear c4; replace H := bS H; obtain ⟨aW, a3, H⟩ := H
     try dsimp only at H
     have A5 := A_ a3; clear a3; have H' := A_ H; clear H; have aP : 0 ≤ (aA : Int) := odt; have aQ : aA < (l1.length : Int) := odt; obtain ⟨a4, aR, aS, aT, aU, aZ, aB, aC, aD, aE, aF, aG, aH, aI⟩ := at_T77 a7.out aA aP aQ; cases aZ; replace aB := ZC HB.out aB; replace aC := ZC HB.out aC; replace aD := ZC HB.out aD; replace aE := ZC HB.out aE; have aL := A_ aG; have aM := A_ aF; clear aG aF; have aN := A_ aI; have aO := A_ aH; clear aI aH; replace aP := eq_true aP; replace aQ := eq_true aQ; obtain ⟨a9, bA, bB⟩ := Kd.V_slice aJ.out; subst bB
     go_wp2_with (first | ((with_reducible refine gate_callee (f := 79) rfl ?_); refine gL 17 Try.func79 #[.slice a9 aK.length bA, .agg #[.slice aR ((rd_T77 l1 aA).f0).length aS, .int .i64 ((rd_T77 l1 aA).f1), .slice aT ((rd_T77 l1 aA).f2).length aU, .int .i64 ((rd_T77 l1 aA).f3)]] ?_; (with_reducible refine (spec_storeUpdated.calls k1 _ _ aK _ _ ((rd_T77 l1 aA).f0) ((rd_T77 l1 aA).f1) _ _ ((rd_T77 l1 aA).f2) ((rd_T77 l1 aA).f3) aW _ ?s1 ?s2 ?s3 aM.out ?s5 aO.out A5.out).mono ?_); (case s1 => exact Z38 aJ.out); (case s2 => exact Z95 aJ.out); (case s3 => exact Z5 aL.out); (case s5 => exact Z5 aN.out); rintro e w7 ⟨bC, rfl, ho0, hb⟩; refine ⟨_, rfl, ?_⟩; replace aJ := A_ (Kd.V_elder' (Z22 aJ.out) Z60 hb); have aX := A_ (Kd.N_lower (Nm (ok' := fun k_ => (aV k_ ∨ w.heap.size ≤ k_)) ho0 (fun k_ hk_ => (.inr (Nat.le_trans (bz Z2) hk_)))) (bz Z2)); replace HB := A_ (bst Z2 hb); (try clear hb); (try clear ho0)))
     go_roundg k1
     case measure => have := a2.out; omega
     case rel => exact ⟨(aW), (wrap64 (aA + 1)), Z26, H', ⟨by have := a2.out; omega⟩, ⟨Kd.N_V (Z8 aX.out)⟩, ⟨Z2⟩⟩
    ·exact Z84
   ·rw [if_neg c3] at H
    have aY := df c3; clear c3; obtain rfl := Option.some.inj H
    go_wp2
    go_ret
    exact ⟨_, Z11, Z22 aJ.out, Z2⟩
end Go.Proofs.Ytgbbcebjgpoioaa.PFnHistRedo
