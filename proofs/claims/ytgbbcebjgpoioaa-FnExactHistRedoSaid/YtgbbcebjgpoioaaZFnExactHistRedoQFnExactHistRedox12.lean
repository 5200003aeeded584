/- Walks (lines of the print; no condition). -/
import Derived.Test.YtgbbcebjgpoioaaZFnExactHistRedoDeep
import Derived.Test.YtgbbcebjgpoioaaZFnExactHistRedoQFnExactHistRedox11
namespace Go.Proofs.Ytgbbcebjgpoioaa.PFnExactHistRedo
open Go.RowKit Go.Proofs.YtgbbcebjgpoioaaW.PrintWords Go.Proofs.YtgbbcebjgpoioaaW.PrintLast Go.Proofs.YtgbbcebjgpoioaaW.PrintMore
attribute [local go_sem] max2_int min2_int max_two min_two max_three min_three max_four min_four
set_option linter.unusedVariables false
set_option linter.unusedSimpArgs false
set_option maxHeartbeats 8000000
set_option maxRecDepth 100000
def laws_toValue.f (aA : Int) (aB : Int) (aC : ByteArray) : Option (Int × Int × ByteArray) := some (aA, aB, aC)
theorem laws_toValue.calls (aN : Int) (aO : Int) (aP : ByteArray) (r1 : Int) (r2 : Int) (r3 : ByteArray) (w : World) (h : laws_toValue.f aN aO aP = some (r1, r2, r3)) :
  Calls Try.prog 101 #[.agg #[.int .i64 aN, .int .i64 aO, .string aP]] w fun e w' => e = .returned (.agg #[.int .i64 r1, .int .i64 r2, .string r3]) ∧ Below w.heap.size w w' := by
 have bD := Try.underlying125; have bE := Try.underlying98; have HB := A_ (Below.refl w.heap.size w); have H := h; unfold laws_toValue.f at H; clear h; simp only [Option.some.injEq, Prod.mk.injEq] at H; obtain ⟨rfl, rfl, rfl⟩ := H
 go_enter Try.func101, Try.ntmps101
 go_wp2_with (first | ((with_reducible refine gate_dst (N := 1) rfl ?_); refine be (cs := #[.int .i64 aN, .int .i64 aO, .string aP]) (t := 125) ?_; intro aF hg w2 hbox hb; have aA := A_ hbox; have aQ := A_ (gl hg (bz Z1)); have aD := aQ; replace HB := A_ (bst Z1 hb); clear hb hbox hg) | ((with_reducible refine gate_dst (N := 2) rfl ?_); refine be (cs := #[.int .i64 0, .int .i64 0, .string (⟨#[]⟩ : ByteArray)]) (t := 98) ?_; intro aE hg w3 hbox hb; have aB := A_ hbox; have aR := A_ (gl hg (bz (Z3 aD.out))); have aM := aR; replace HB := A_ (bst (Z3 aD.out) hb); have aH := A_ ((by rw [hg]; exact nl (blk_lt (Z2 aA.out)) : aF ≠ aE)); have aI := A_ ((by rw [hg]; exact Nat.ne_of_gt (blk_lt (Z2 aA.out)) : aE ≠ aF)); replace aA := A_ (bb (Z2 aA.out) hb); clear hb hbox hg) | ((with_reducible refine gate_dst (N := 3) rfl ?_); refine be (cs := #[.int .i64 0, .int .i64 0, .string (⟨#[]⟩ : ByteArray)]) (t := 98) ?_; intro aG hg w4 hbox hb; have aS := A_ hbox; have aT := A_ (gl hg (bz (Z5 aD.out aM.out))); have aU := aT; replace HB := A_ (bst (Z5 aD.out aM.out) hb); have aJ := A_ ((by rw [hg]; exact nl (blk_lt (Z2 aA.out)) : aF ≠ aG)); have aK := A_ ((by rw [hg]; exact Nat.ne_of_gt (blk_lt (Z2 aA.out)) : aG ≠ aF)); replace aA := A_ (bb (Z2 aA.out) hb); have aC := A_ ((by rw [hg]; exact nl (blk_lt (Z2 aB.out)) : aE ≠ aG)); have aL := A_ ((by rw [hg]; exact Nat.ne_of_gt (blk_lt (Z2 aB.out)) : aG ≠ aE)); replace aB := A_ (bb (Z2 aB.out) hb); clear hb hbox hg; have bF := aH.out; have bG := aI.out; have bH := aJ.out; have bI := aK.out; obtain ⟨a1, a2, a3, a4, a5, a6⟩ := C3 aA.out; have bJ := aL.out; have bK := aC.out; obtain ⟨a7, a8, a9, bA, bB, bC⟩ := C3 aS.out; obtain ⟨aV, aW, aX, aY, aZ, a0⟩ := C3 aB.out))
 refine bodyPost_ret (results_cell_row rfl _ _ aE 98 #[.int .i64 aN, .int .i64 aO, .string aP] (0, 0) _ rfl (bp1 aB.out aC.out) Try.underlying98 rfl (by kernel_rfl)) rfl ?_
 exact ⟨Z7, by repeat (first | (with_reducible first | exact HB.out | apply below_alloc | apply pw_below_drewN | apply below_drew1 | refine below_set ?_ aD.out | refine below_set ?_ aM.out | refine below_set ?_ aU.out) | exact HB.out)⟩
def laws_toValueS.l0 : Nat → List (S125) → List (S98) → Int → Option ((List (S98)))
 | 0, _, _, _ => none
 | k + 1, x0, x3, x4 => if x4 < (x0.length : Int) then (if 0 ≤ x4 then ((laws_toValue.f ((rd_T125 x0 x4).f0) ((rd_T125 x0 x4).f1) ((rd_T125 x0 x4).f2)).bind fun aA => (if x4 < (x3.length : Int) then (laws_toValueS.l0 k x0 (x3.set (x4 : Int).toNat (⟨aA.1, aA.2.1, aA.2.2⟩ : S98)) (wrap64 (x4 + 1))) else (none))) else (none)) else (some x3)
def laws_toValueS.f (k : Nat) (l0 : List (S125)) : Option ((List (S98))) := if 0 ≤ (l0.length : Int) then (if ((l0.length : Int) : Int).toNat ≤ 8796093022208 then (laws_toValueS.l0 k l0 (List.replicate ((l0.length : Int) : Int).toNat z98) 0) else (none)) else (none)
theorem laws_toValueS.calls (k : Nat) (A0 : Option Addr) (c0 : Nat) (l0 : List (S125)) (r : List (S98)) (w : World) (bY : Kd.C k125 w A0 l0.length l0) (hc0 : l0.length ≤ c0) (h : laws_toValueS.f k l0 = some r) :
  Calls Try.prog 86 #[.slice A0 l0.length c0] w fun e w' => ∃ bZ : Value, e = .returned (bZ) ∧ Kd.R k98 98 w' w.heap.size (fun _ => True) bZ r ∧ Below w.heap.size w w' := by
 have b0 := Try.underlying125; have b4 := Try.underlying98; have b5 := A_ bY; have cC := A_ hc0; clear bY hc0; have HB := A_ (Below.refl w.heap.size w); have H := h; unfold laws_toValueS.f at H; clear h
 by_cases c2 : 0 ≤ (l0.length : Int)
 ·rw [if_pos c2] at H
  have bF := eq_true c2; have bG := dt c2; clear c2
  by_cases c3 : ((l0.length : Int) : Int).toNat ≤ 8796093022208
  ·rw [if_pos c3] at H
   have bH := eq_true c3; have bI := dt c3; clear c3; obtain ⟨bJ, aF⟩ : ∃ y_ : List (S98), y_ = (List.replicate ((l0.length : Int) : Int).toNat z98) := ⟨_, rfl⟩
   first | rw [← aF, Option.bind_some] at H | rw [← aF] at H
   have aR := A_ aF; clear aF; have H' := A_ H; clear H
   go_enter Try.func86, Try.ntmps86
   go_wp2_with (first | ((with_reducible refine gate_dst (N := 7) rfl ?_); refine Kd.R_make k98 _ 98 rfl (N := 7) rfl 69 _ _ rfl (l0.length : Int) rfl rfl Try.underlying69 (.agg #[(.int .i64 0), (.int .i64 0), (.string ⟨#[]⟩)]) 32 info98 rfl (by decide) (by omega) z98 (ok := fun _ => True) (okp := fun _ => True) (k98_mkM _ _ _ z98 ) (fun _ hk => hk) trivial (odt) (Nat.le_trans (Nat.mul_le_mul_right _ (odt : (l0.length : Int).toNat ≤ 8796093022208)) (by omega)) (Below.refl _ _) (Nat.le_refl _) ?_; intro bK w4 a3 hb hg_ hnew_; clear hg_ hnew_; (first | rw [← aR.out] at a3 | (simp only [Int.reduceToNat] at a3; rw [← aR.out] at a3)); have a4 := A_ (Kd.R_lower a3 (bz Z1)); replace HB := A_ (bst Z1 hb); clear hb a3))
   go_loopg [4] k (fun kq v4 w' => ∃ (aB : List (S98)) (aA : Int), v4 = .int .i64 aA ∧ Aside0 (laws_toValueS.l0 kq l0 aB aA = some r) ∧ Aside0 (kq ≤ k) ∧ Aside0 (Kd.R k98 98 w' w.heap.size (fun _ => True) bK aB) ∧ Aside0 (Below w.heap.size w w'))
   case atStart => exact ⟨(bJ), (0), Z17, H', ⟨Nat.le_refl _⟩, ⟨Z9 a4.out⟩, ⟨Z1⟩⟩
   case round =>
    clear H'; try clear c2
    try clear bF
    try clear bG
    try clear c3
    try clear bH
    try clear bI
    obtain ⟨aB, aA, rfl, HA, b1, aD, HB⟩ := hrel
    cases gk with
    | zero => exact absurd HA.out (by simp [laws_toValueS.l0])
    | succ k1 =>
     have H := HA.out; clear HA; simp only [laws_toValueS.l0] at H
     by_cases c6 : aA < (l0.length : Int)
     ·rw [if_pos c6] at H
      have bL := dt c6; clear c6
      by_cases c7 : 0 ≤ aA
      ·rw [if_pos c7] at H
       have b6 := dt c7; clear c7; replace H := bS H; obtain ⟨⟨aN, aO, aP⟩, b2, H⟩ := H
       try dsimp only at H
       have A8 := A_ b2; clear b2
       by_cases c9 : aA < (aB.length : Int)
       ·rw [if_pos c9] at H
        have b7 := dt c9; clear c9; obtain ⟨a5, aG⟩ : ∃ y_ : List (S98), y_ = (aB.set (aA : Int).toNat (⟨aN, aO, aP⟩ : S98)) := ⟨_, rfl⟩
        first | rw [← aG, Option.bind_some] at H | rw [← aG] at H
        have a6 := A_ aG; clear aG; have H' := A_ H; clear H; have aT : 0 ≤ (aA : Int) := odt; have aU : aA < (l0.length : Int) := odt; obtain ⟨b3, bM, aH, aI, aJ⟩ := at_T125 b5.out aA aT aU; cases bM; replace aH := ZC HB.out aH; replace aI := ZC HB.out aI; replace aJ := ZC HB.out aJ; replace aT := eq_true aT; replace aU := eq_true aU
        go_wp2_with (first | ((with_reducible refine gate_callee (f := 101) rfl ?_); refine gL 20 Try.func101 #[.agg #[.int .i64 ((rd_T125 l0 aA).f0), .int .i64 ((rd_T125 l0 aA).f1), .string ((rd_T125 l0 aA).f2)]] ?_; (with_reducible refine (laws_toValue.calls ((rd_T125 l0 aA).f0) ((rd_T125 l0 aA).f1) ((rd_T125 l0 aA).f2) aN aO aP _ A8.out).mono ?_); rintro e aQ ⟨rfl, hb⟩; refine ⟨_, rfl, ?_⟩; replace aD := A_ (Rbl (Z9 aD.out) hb); replace HB := A_ (bst Z1 hb); (try clear hb); have bN : 0 ≤ (aA : Int) := odt; have bO : (aA : Int) < ((aB.length : Int) : Int) := odt; obtain ⟨aC, a7, a8, a9, bP, b8, bA⟩ := Kd.R_form aD.out (by omega); (first | cases a8 | (injection a8 with ea_ en_ ec_; (first | subst ea_ | (injection ea_ with ea_; subst ea_)); subst ec_; clear en_)); have aV := A_ a9; have b9 := A_ bA; clear a9 bP bA; obtain ⟨cA, bB, bC, aK, aL⟩ := Kd.R_elem aD.out z98 (aA : Int) bN bO; obtain rfl := k98_openM bC; have bQ : aQ.cell? ⟨aC, (aA : Int).toNat * 3, none⟩ = some (.int .i64 ((rd_T98 aB aA).f0)) := aK 0 _ rfl; have bR : aQ.cell? ⟨aC, (aA : Int).toNat * 3 + 1, none⟩ = some (.int .i64 ((rd_T98 aB aA).f1)) := aK 1 _ rfl; have bT : aQ.cell? ⟨aC, (aA : Int).toNat * 3 + 2, none⟩ = some (.string ((rd_T98 aB aA).f2)) := aK 2 _ rfl; have bU : aQ.frozen? ⟨aC, (aA : Int).toNat * 3, none⟩ = false := aL 0; have bV : aQ.frozen? ⟨aC, (aA : Int).toNat * 3 + 1, none⟩ = false := aL 1; have bW : aQ.frozen? ⟨aC, (aA : Int).toNat * 3 + 2, none⟩ = false := aL 2; (try clear bC); clear bB aK aL; replace bN := eq_true bN; replace bO := eq_true bO; have bD := A_ (show Kd.R k98 98 aQ w.heap.size (fun _ => True) (.slice (some ⟨aC, 0, none⟩) aB.length a7) aB from (Z9 aD.out)); obtain ⟨cB, aS, bE, aE, aM⟩ := Kd.R_elem bD.out z98 (aA : Int) (odt) (by have h_ : (aA : Int) < ((aB.length : Int) : Int) := odt; first | exact h_ | (have e_ := (Kd.R_reads' aD.out).1; omega) | simpa using h_); obtain rfl := k98_openM bE; have aW := Kd.R_seg bD.out (aA : Int) (odt) (by have h_ : (aA : Int) < ((aB.length : Int) : Int) := odt; first | exact h_ | (have e_ := (Kd.R_reads' aD.out).1; omega) | simpa using h_) (seg := [.int .i64 aN, .int .i64 aO, .string aP]) (j := 0) aS aE (show 3 ≤ 3 from by decide) (x' := (⟨aN, aO, aP⟩ : S98)) (k98_mkM _ _ _ (⟨aN, aO, aP⟩ : S98) ) (fun _ hk => hk); have aX := aE 0 _ rfl; (try simp only [show (k98).sz = 3 from rfl, Nat.mul_one, Nat.add_zero] at aX); have aY := aM 0; (try simp only [show (k98).sz = 3 from rfl, Nat.mul_one, Nat.add_zero] at aY); have aZ := aE 1 _ rfl; (try simp only [show (k98).sz = 3 from rfl, Nat.mul_one, Nat.add_zero] at aZ); have a0 := aM 1; (try simp only [show (k98).sz = 3 from rfl, Nat.mul_one, Nat.add_zero] at a0); have a1 := aE 2 _ rfl; (try simp only [show (k98).sz = 3 from rfl, Nat.mul_one, Nat.add_zero] at a1); have a2 := aM 2; (try simp only [show (k98).sz = 3 from rfl, Nat.mul_one, Nat.add_zero] at a2); (try clear bE); clear aS aE aM) | ((with_reducible refine gate_store (t := 98) (p := 21) rfl ?_); refine store_event (t := 98) (p := 21) (v := ?vo_w13) (w1 := (((aQ.setCell ⟨aC, (aA : Int).toNat * 3, none⟩ (.int .i64 aN)).setCell ⟨aC, (aA : Int).toNat * 3 + 1, none⟩ (.int .i64 aO)).setCell ⟨aC, (aA : Int).toNat * 3 + 2, none⟩ (.string aP))) ?hg ?ho ?hn ?hr ?_; (case ho => rfl); (case hg => rfl); (case hn => rfl); (case hr => exact Z36); intro bX hw; have hg : aQ.grownBy bX (some aC) := (by rw [hw]; exact aW.2); have hp_ : Kd.R k98 98 bX w.heap.size (fun _ => True) (.slice (some ⟨aC, 0, none⟩) aB.length a7) a5 := (by rw [hw, a6.out]; exact aW.1); clear aW; replace aD := A_ hp_; replace HB := A_ ((by rw [hw]; exact below_set (below_set (below_set (HB.out) aV.out) aV.out) aV.out : Below w.heap.size w bX)); clear hg hw hp_))
        go_roundg k1
        case measure => have := b1.out; omega
        case rel => exact ⟨(a5), (wrap64 (aA + 1)), Z17, H', ⟨by have := b1.out; omega⟩, ⟨Z9 aD.out⟩, ⟨Z1⟩⟩
       ·rw [if_neg c9] at H
        exact absurd H (by simp)
      ·rw [if_neg c7] at H
       exact absurd H (by simp)
     ·rw [if_neg c6] at H
      have bL := df c6; clear c6; obtain rfl := Option.some.inj H
      go_wp2
      go_ret
      exact ⟨_, Z7, Z9 aD.out, Z1⟩
  ·exact Z50
 ·rw [if_neg c2] at H
  exact absurd H (by simp)
def laws_toCell.f (k : Nat) (aA : List (S127)) (aB : List (S125)) : Option ((List (S96)) × (List (S98))) := (laws_toSlotS.f k aA).bind fun aC => ((laws_toValueS.f k aB).bind fun aD => (some (aC, aD)))
theorem laws_toCell.calls (k : Nat) (aP : Option Addr) (aQ : Nat) (aG : List (S127)) (aR : Option Addr) (aS : Nat) (aH : List (S125)) (r1 : List (S96)) (r2 : List (S98)) (w : World) (aT : Kd.C k127 w aP aG.length aG) (aU : aG.length ≤ aQ) (aV : Kd.C k125 w aR aH.length aH) (aW : aH.length ≤ aS) (h : laws_toCell.f k aG aH = some (r1, r2)) :
  Calls Try.prog 65 #[.agg #[.slice aP aG.length aQ, .slice aR aH.length aS]] w fun e w' => ∃ bZ b0 : Value, e = .returned (.agg #[bZ, b0]) ∧ Kd.R k96 96 w' w.heap.size (fun _ => True) bZ r1 ∧ Kd.R k98 98 w' w.heap.size (fun _ => True) b0 r2 ∧ Below w.heap.size w w' := by
 have b5 := Try.underlying89; have b6 := Try.underlying72; have aZ := A_ aT; have a0 := A_ aU; clear aT aU; have a1 := A_ aV; have a2 := A_ aW; clear aV aW; have HB := A_ (Below.refl w.heap.size w); have H := h; unfold laws_toCell.f at H; clear h; replace H := bS H; obtain ⟨aY, b1, H⟩ := H
 try dsimp only at H
 have A2 := A_ b1; clear b1; replace H := bS H; obtain ⟨a3, b2, H⟩ := H
 try dsimp only at H
 have A3 := A_ b2; clear b2; simp only [Option.some.injEq, Prod.mk.injEq] at H; obtain ⟨rfl, rfl⟩ := H
 go_enter Try.func65, Try.ntmps65
 go_wp2_with (first | ((with_reducible refine gate_dst (N := 1) rfl ?_); refine be (cs := #[.slice aP aG.length aQ, .slice aR aH.length aS]) (t := 89) ?_; intro aI hg w4 hbox hb; have aA := A_ hbox; have a4 := A_ (gl hg (bz Z1)); have GE298 := a4; replace HB := A_ (bst Z1 hb); clear hb hbox hg) | ((with_reducible refine gate_dst (N := 2) rfl ?_); refine be (cs := #[.slice none 0 0, .slice none 0 0]) (t := 72) ?_; intro aE hg w5 hbox hb; have aB := A_ hbox; have a5 := A_ (gl hg (bz (Z3 GE298.out))); have GE299 := a5; replace HB := A_ (bst (Z3 GE298.out) hb); have aL := A_ ((by rw [hg]; exact nl (blk_lt (Z2 aA.out)) : aI ≠ aE)); have aM := A_ ((by rw [hg]; exact Nat.ne_of_gt (blk_lt (Z2 aA.out)) : aE ≠ aI)); replace aA := A_ (bb (Z2 aA.out) hb); clear hb hbox hg) | ((with_reducible refine gate_dst (N := 3) rfl ?_); refine be (cs := #[.slice none 0 0, .slice none 0 0]) (t := 72) ?_; intro aJ hg w6 hbox hb; have aC := A_ hbox; have a6 := A_ (gl hg (bz (Z5 GE298.out GE299.out))); have GE300 := a6; replace HB := A_ (bst (Z5 GE298.out GE299.out) hb); have aF := A_ ((by rw [hg]; exact nl (blk_lt (Z2 aA.out)) : aI ≠ aJ)); have aN := A_ ((by rw [hg]; exact Nat.ne_of_gt (blk_lt (Z2 aA.out)) : aJ ≠ aI)); replace aA := A_ (bb (Z2 aA.out) hb); have aD := A_ ((by rw [hg]; exact nl (blk_lt (Z2 aB.out)) : aE ≠ aJ)); have aO := A_ ((by rw [hg]; exact Nat.ne_of_gt (blk_lt (Z2 aB.out)) : aJ ≠ aE)); replace aB := A_ (bb (Z2 aB.out) hb); clear hb hbox hg; have b7 := aL.out; have b8 := aM.out; have b9 := aF.out; have cA := aN.out; obtain ⟨bQ, bR, bT, bU⟩ := C2 aA.out) | ((with_reducible refine gate_callee (f := 85) rfl ?_); refine gL 6 Try.func85 #[.slice aP aG.length aQ] ?_; (with_reducible refine (laws_toSlotS.calls k _ _ aG aY _ ?s1 a0.out A2.out).mono ?_); (case s1 => exact Z4 aZ.out); rintro e cD ⟨cB, rfl, a7, hb⟩; refine ⟨_, rfl, ?_⟩; have aK := A_ (Kd.R_lower a7 (bz Z34)); replace aA := A_ (bb (Z2 aA.out) hb); replace aB := A_ (bb (Z2 aB.out) hb); replace aC := A_ (bb (Z2 aC.out) hb); replace HB := A_ (bst Z34 hb); (try clear hb); (try clear a7); obtain ⟨a8, a9, bV⟩ := Kd.R_slice aK.out; subst bV; have b3 := aO.out; have b4 := aD.out; obtain ⟨bA, bB, bC, bD⟩ := C2 aC.out; obtain ⟨bE, bF, bG, bH⟩ := C2 aA.out) | ((with_reducible refine gate_callee (f := 86) rfl ?_); refine gL 10 Try.func86 #[.slice aR aH.length aS] ?_; (with_reducible refine (laws_toValueS.calls k _ _ aH a3 _ ?s1 a2.out A3.out).mono ?_); (case s1 => exact Kd.C_below a1.out Z34); rintro e cE ⟨cC, rfl, a7, hb⟩; refine ⟨_, rfl, ?_⟩; replace aK := A_ (Rbl (by (with_reducible repeat (first | apply Kd.R_alloc | apply Kd.R_drewN | apply Kd.R_drew)); exact (RT1 aK.out aC.out)) hb); have aX := A_ (Kd.R_lower a7 (bz Z34)); replace aA := A_ (bb (g := aI) (o := .cells #[.slice aP aG.length aQ, .slice aR aH.length aS] 89 (0, 0)) (Z33 aF.out aA.out) hb); replace aB := A_ (bb (g := aE) (o := .cells #[.slice none 0 0, .slice none 0 0] 72 (0, 0)) (Z33 aD.out aB.out) hb); replace aC := A_ (bb (g := aJ) (o := .cells #[.slice a8 aY.length a9, .slice none 0 0] 72 (0, 0)) (bp0 aC.out) hb); replace HB := A_ (bst Z34 hb); (try clear hb); (try clear a7); obtain ⟨bW, bX, bY⟩ := Kd.R_slice aX.out; subst bY; obtain ⟨bI, bJ, bK, bL⟩ := C2 aC.out; obtain ⟨bM, bN, bO, bP⟩ := C2 aB.out))
 refine bodyPost_ret (results_cell_row rfl _ _ aE 72 #[.slice a8 aY.length a9, .slice bW a3.length bX] (0, 0) _ rfl (bp1 aB.out aD.out) Try.underlying72 rfl (by kernel_rfl)) rfl ?_
 exact ⟨_, _, Z7, by (with_reducible repeat (first | apply Kd.R_alloc | apply Kd.R_drewN | apply Kd.R_drew)); exact Rm (Rf (Rf (Kd.R_far (Kd.R_types (Kd.R_types aK.out aC.out (by decide)) aB.out (by decide)) (fun _ hk => hk.1.2) _))) (fun _ hk => trivial), by (with_reducible repeat (first | apply Kd.R_alloc | apply Kd.R_drewN | apply Kd.R_drew)); exact Rm (Rf (Rf (Kd.R_far (Kd.R_types (Kd.R_types aX.out aC.out (by decide)) aB.out (by decide)) (fun _ hk => hk.1.2) _))) (fun _ hk => trivial), Z34⟩
def laws_toCellS.l0 : Nat → List (S89) → List (S72) → Int → Option ((List (S72)))
 | 0, _, _, _ => none
 | k + 1, x0, x3, x4 => if x4 < (x0.length : Int) then (if 0 ≤ x4 then ((laws_toCell.f k ((rd_T89 x0 x4).f0) ((rd_T89 x0 x4).f1)).bind fun aA => (if x4 < (x3.length : Int) then (laws_toCellS.l0 k x0 (x3.set (x4 : Int).toNat (⟨aA.1, aA.2⟩ : S72)) (wrap64 (x4 + 1))) else (none))) else (none)) else (some x3)
def laws_toCellS.f (k : Nat) (l0 : List (S89)) : Option ((List (S72))) := if 0 ≤ (l0.length : Int) then (if ((l0.length : Int) : Int).toNat ≤ 5864062014805 then (laws_toCellS.l0 k l0 (List.replicate ((l0.length : Int) : Int).toNat z72) 0) else (none)) else (none)
theorem laws_toCellS.calls (k : Nat) (A0 : Option Addr) (c0 : Nat) (l0 : List (S89)) (r : List (S72)) (w : World) (cL : Kd.C k89 w A0 l0.length l0) (hc0 : l0.length ≤ c0) (h : laws_toCellS.f k l0 = some r) :
  Calls Try.prog 38 #[.slice A0 l0.length c0] w fun e w' => ∃ cM : Value, e = .returned (cM) ∧ Kd.S k72 72 w' w.heap.size (fun _ => True) cM r ∧ Below w.heap.size w w' := by
 have cR := Try.underlying89; have cS := Try.underlying72; have cT := A_ cL; have dA := A_ hc0; clear cL hc0; have HB := A_ (Below.refl w.heap.size w); have H := h; unfold laws_toCellS.f at H; clear h
 by_cases c2 : 0 ≤ (l0.length : Int)
 ·rw [if_pos c2] at H
  have bX := eq_true c2; have bY := dt c2; clear c2
  by_cases c3 : ((l0.length : Int) : Int).toNat ≤ 5864062014805
  ·rw [if_pos c3] at H
   have bZ := eq_true c3; have b0 := dt c3; clear c3; obtain ⟨b1, aI⟩ : ∃ y_ : List (S72), y_ = (List.replicate ((l0.length : Int) : Int).toNat z72) := ⟨_, rfl⟩
   first | rw [← aI, Option.bind_some] at H | rw [← aI] at H
   have a2 := A_ aI; clear aI; have H' := A_ H; clear H
   go_enter Try.func38, Try.ntmps38
   go_wp2_with (first | ((with_reducible refine gate_dst (N := 7) rfl ?_); refine Kd.S_make k72 _ 72 rfl (N := 7) rfl 23 _ _ rfl (l0.length : Int) rfl rfl Try.underlying23 (.agg #[(.slice none 0 0), (.slice none 0 0)]) 48 info72 rfl (by decide) (by omega) z72 (ok := fun _ => True) (okp := fun _ => True) (k72_mkM _ _ _ z72 (Kd.R_nil _ _ _ _ _) (Kd.R_nil _ _ _ _ _)) (fun _ hk => hk) trivial (odt) (Nat.le_trans (Nat.mul_le_mul_right _ (odt : (l0.length : Int).toNat ≤ 5864062014805)) (by omega)) (Below.refl _ _) (Nat.le_refl _) ?_; intro b2 w4 bI hb hg_ hnew_; clear hg_ hnew_; (first | rw [← a2.out] at bI | (simp only [Int.reduceToNat] at bI; rw [← a2.out] at bI)); have bJ := A_ (Kd.S_lower bI (bz Z1)); replace HB := A_ (bst Z1 hb); clear hb bI))
   go_loopg [4] k (fun kq v4 w' => ∃ (aD : List (S72)) (aA : Int), v4 = .int .i64 aA ∧ Aside0 (laws_toCellS.l0 kq l0 aD aA = some r) ∧ Aside0 (kq ≤ k) ∧ Aside0 (Kd.S k72 72 w' w.heap.size (fun _ => True) b2 aD) ∧ Aside0 (Below w.heap.size w w'))
   case atStart => exact ⟨(b1), (0), Z17, H', ⟨Nat.le_refl _⟩, ⟨Z8 bJ.out⟩, ⟨Z1⟩⟩
   case round =>
    clear H'; try clear c2
    try clear bX
    try clear bY
    try clear c3
    try clear bZ
    try clear b0
    obtain ⟨aD, aA, rfl, HA, cN, aB, HB⟩ := hrel
    cases gk with
    | zero => exact absurd HA.out (by simp [laws_toCellS.l0])
    | succ k1 =>
     have H := HA.out; clear HA; simp only [laws_toCellS.l0] at H
     by_cases c6 : aA < (l0.length : Int)
     ·rw [if_pos c6] at H
      have b3 := dt c6; clear c6
      by_cases c7 : 0 ≤ aA
      ·rw [if_pos c7] at H
       have cU := dt c7; clear c7; replace H := bS H; obtain ⟨⟨aU, aV⟩, cO, H⟩ := H
       try dsimp only at H
       have A8 := A_ cO; clear cO
       by_cases c9 : aA < (aD.length : Int)
       ·rw [if_pos c9] at H
        have cV := dt c9; clear c9; obtain ⟨bK, aJ⟩ : ∃ y_ : List (S72), y_ = (aD.set (aA : Int).toNat (⟨aU, aV⟩ : S72)) := ⟨_, rfl⟩
        first | rw [← aJ, Option.bind_some] at H | rw [← aJ] at H
        have bL := A_ aJ; clear aJ; have H' := A_ H; clear H; have a3 : 0 ≤ (aA : Int) := odt; have a4 : aA < (l0.length : Int) := odt; obtain ⟨cP, a5, a6, a7, a8, b4, aK, aL, aM, aN, aO, aP⟩ := at_T89 cT.out aA a3 a4; cases b4; replace aK := ZC HB.out aK; replace aL := ZC HB.out aL; have aW := A_ aN; have aX := A_ aM; clear aN aM; have aY := A_ aP; have aZ := A_ aO; clear aP aO; replace a3 := eq_true a3; replace a4 := eq_true a4
        go_wp2_with (first | ((with_reducible refine gate_callee (f := 65) rfl ?_); refine gL 20 Try.func65 #[.agg #[.slice a5 ((rd_T89 l0 aA).f0).length a6, .slice a7 ((rd_T89 l0 aA).f1).length a8]] ?_; (with_reducible refine (laws_toCell.calls k1 _ _ ((rd_T89 l0 aA).f0) _ _ ((rd_T89 l0 aA).f1) aU aV _ ?s1 aX.out ?s3 aZ.out A8.out).mono ?_); (case s1 => exact Z4 aW.out); (case s3 => exact Z4 aY.out); rintro e a9 ⟨a0, a1, rfl, b5, ho1, hb⟩; refine ⟨_, rfl, ?_⟩; replace aB := A_ (Kd.S_mono (Kd.S_told (Kd.S_told (Kd.S_old (Z8 aB.out) hb) (Kd.R_base b5)) (Kd.R_base ho1)) (fun _ h_ => h_.1)); have aG := A_ (Kd.R_lower b5 (bz Z1)); have aH := A_ (Kd.R_lower ho1 (bz Z1)); replace HB := A_ (bst Z1 hb); (try clear hb); (try clear b5); (try clear ho1); have b6 : 0 ≤ (aA : Int) := odt; have b7 : (aA : Int) < ((aD.length : Int) : Int) := odt; obtain ⟨aC, bM, bN, bO, b8, cW, bP⟩ := Kd.S_form aB.out (by omega); (first | cases bN | (injection bN with ea_ en_ ec_; (first | subst ea_ | (injection ea_ with ea_; subst ea_)); subst ec_; clear en_)); have bQ := A_ bO; have cX := A_ bP; clear bO b8 bP; obtain ⟨_, cY, bR, bT, aQ, aR, _, _⟩ := Kd.S_elem aB.out z72 (aA : Int) b6 b7; obtain ⟨bA, bB, rfl, b9, cA⟩ := k72_openM bT; have cB : a9.cell? ⟨aC, (aA : Int).toNat * 2, none⟩ = some (bA) := aQ 0 _ rfl; have cC : a9.cell? ⟨aC, (aA : Int).toNat * 2 + 1, none⟩ = some (bB) := aQ 1 _ rfl; have cD : a9.frozen? ⟨aC, (aA : Int).toNat * 2, none⟩ = false := aR 0; have cE : a9.frozen? ⟨aC, (aA : Int).toNat * 2 + 1, none⟩ = false := aR 1; (try clear bT); clear bR aQ aR; replace b6 := eq_true b6; replace b7 := eq_true b7; have n_ := A_ (Kd.S_mono (ok' := (fun k_ => some k_ ≠ (a0 : Value).ownBlock ∧ some k_ ≠ (a1 : Value).ownBlock)) aB.out (fun k_ hk => ⟨hk.1.2, hk.2⟩)); clear aB; have aB := n_; clear n_; have cF := A_ (show Kd.S k72 72 a9 w.heap.size (fun k_ => ((fun _ => True)) k_ ∧ ¬ ((fun k_ => some k_ = (a0 : Value).ownBlock ∨ some k_ = (a1 : Value).ownBlock)) k_) (.slice (some ⟨aC, 0, none⟩) aD.length bM) aD from (by (with_reducible repeat (first | apply Kd.S_alloc | apply Kd.S_drewN | apply Kd.S_drew)); exact Kd.S_mono aB.out (fun k_ hk => ⟨trivial, fun e_ => e_.elim (fun h_ => hk.1 h_) (fun h_ => hk.2 h_)⟩))); obtain ⟨cQ, cZ, bU, bV, aS, aT, bC, bW⟩ := Kd.S_elem cF.out z72 (aA : Int) (odt) (by have h_ : (aA : Int) < ((aD.length : Int) : Int) := odt; first | exact h_ | (have e_ := (Kd.S_reads' aB.out).1; omega) | simpa using h_); obtain ⟨cG, cH, rfl, cI, cJ⟩ := k72_openM bV; have bD := Kd.S_seg bW (odt) (by have h_ : (aA : Int) < ((aD.length : Int) : Int) := odt; first | exact h_ | (have e_ := (Kd.S_reads' aB.out).1; omega) | simpa using h_) (seg := [a0, a1]) (j := 0) (show 2 ≤ 2 from by decide) (x' := (⟨aU, aV⟩ : S72)) (k72_mkM _ _ _ (⟨aU, aV⟩ : S72) (Rm (Kd.R_tight rfl (Rm (ok' := fun k_ => ((fun _ => True)) k_ ∧ k_ ≠ aC) (Kd.R_apart' (aG.out) (Kd.S_typed aB.out) (by decide)) (fun k_ hk => ⟨trivial, fun e_ => (hk.2) (by rw [e_]; rfl)⟩))) (fun _ h_ => Or.inr (Or.inl h_))) (Rm (Kd.R_tight rfl (Rm (ok' := fun k_ => ((fun _ => True)) k_ ∧ k_ ≠ aC) (Kd.R_apart' (aH.out) (Kd.S_typed aB.out) (by decide)) (fun k_ hk => ⟨trivial, fun e_ => (hk.2) (by rw [e_]; rfl)⟩))) (fun _ h_ => Or.inr (Or.inr (h_))))) (fun _ hk => hk) (fun k_ hk_ => hk_.elim (fun h_ => ((Rm (ok' := fun k_ => ((fun _ => True)) k_ ∧ k_ ≠ aC) (Kd.R_apart' (aG.out) (Kd.S_typed aB.out) (by decide)) (fun k_ hk => ⟨trivial, fun e_ => (hk.2) (by rw [e_]; rfl)⟩))).1 k_ h_.symm) (fun h_ => ((Rm (ok' := fun k_ => ((fun _ => True)) k_ ∧ k_ ≠ aC) (Kd.R_apart' (aH.out) (Kd.S_typed aB.out) (by decide)) (fun k_ hk => ⟨trivial, fun e_ => (hk.2) (by rw [e_]; rfl)⟩))).1 k_ h_.symm)); have bE := aS 0 _ rfl; (try simp only [show (k72).sz = 2 from rfl, Nat.mul_one, Nat.add_zero] at bE); have bF := aT 0; (try simp only [show (k72).sz = 2 from rfl, Nat.mul_one, Nat.add_zero] at bF); have bG := aS 1 _ rfl; (try simp only [show (k72).sz = 2 from rfl, Nat.mul_one, Nat.add_zero] at bG); have bH := aT 1; (try simp only [show (k72).sz = 2 from rfl, Nat.mul_one, Nat.add_zero] at bH); (try clear bV); clear bU aS aT bC bW) | ((with_reducible refine gate_store (t := 72) (p := 21) rfl ?_); refine store_event (t := 72) (p := 21) (v := ?vo_w13) (w1 := ((a9.setCell ⟨aC, (aA : Int).toNat * 2, none⟩ (a0)).setCell ⟨aC, (aA : Int).toNat * 2 + 1, none⟩ (a1))) ?hg ?ho ?hn ?hr ?_; (case ho => rfl); (case hg => rfl); (case hn => rfl); (case hr => first | (go_simp; done) | (go_simp; rfl) | ((first | (obtain ⟨_, _, aE⟩ := Kd.R_slice aG.out; subst aE) | (obtain ⟨_, _, aE⟩ := Kd.S_slice aG.out; subst aE) | (obtain ⟨_, _, aE⟩ := Kd.N_slice aG.out; subst aE)); (first | (obtain ⟨_, _, aF⟩ := Kd.R_slice aH.out; subst aF) | (obtain ⟨_, _, aF⟩ := Kd.S_slice aH.out; subst aF) | (obtain ⟨_, _, aF⟩ := Kd.N_slice aH.out; subst aF)); first | (go_simp; done) | (go_simp; rfl))); intro cK hw; have hg : a9.grownBy cK (some aC) := (by rw [hw]; exact bD.2); have hp_ : Kd.S k72 72 cK w.heap.size (fun _ => True) (.slice (some ⟨aC, 0, none⟩) aD.length bM) bK := (by rw [hw, bL.out]; exact bD.1); clear bD; replace aB := A_ hp_; replace HB := A_ ((by rw [hw]; exact below_set (below_set (HB.out) bQ.out) bQ.out : Below w.heap.size w cK)); clear aG; clear aH; clear hg hw hp_))
        go_roundg k1
        case measure => have := cN.out; omega
        case rel => exact ⟨(bK), (wrap64 (aA + 1)), Z17, H', ⟨by have := cN.out; omega⟩, ⟨Z8 aB.out⟩, ⟨Z1⟩⟩
       ·rw [if_neg c9] at H
        exact absurd H (by simp)
      ·rw [if_neg c7] at H
       exact absurd H (by simp)
     ·rw [if_neg c6] at H
      have b3 := df c6; clear c6; obtain rfl := Option.some.inj H
      go_wp2
      go_ret
      exact ⟨_, Z7, Z8 aB.out, Z1⟩
  ·exact Z50
 ·rw [if_neg c2] at H
  exact absurd H (by simp)
def laws_toCellSS.l0 : Nat → List (List (S89)) → List (List (S72)) → Int → Option ((List (List (S72))))
 | 0, _, _, _ => none
 | k + 1, x0, x3, x4 => if x4 < (x0.length : Int) then (if 0 ≤ x4 then ((laws_toCellS.f k (rd_L13 x0 x4)).bind fun aA => (if x4 < (x3.length : Int) then (laws_toCellSS.l0 k x0 (x3.set (x4 : Int).toNat aA) (wrap64 (x4 + 1))) else (none))) else (none)) else (some x3)
def laws_toCellSS.f (k : Nat) (l0 : List (List (S89))) : Option ((List (List (S72)))) := if 0 ≤ (l0.length : Int) then (if ((l0.length : Int) : Int).toNat ≤ 11728124029610 then (laws_toCellSS.l0 k l0 (List.replicate ((l0.length : Int) : Int).toNat []) 0) else (none)) else (none)
theorem laws_toCellSS.calls (k : Nat) (A0 : Option Addr) (c0 : Nat) (l0 : List (List (S89))) (r : List (List (S72))) (w : World) (bQ : Kd.C (Kd.slice 89 k89) w A0 l0.length l0) (hc0 : l0.length ≤ c0) (h : laws_toCellSS.f k l0 = some r) :
  Calls Try.prog 39 #[.slice A0 l0.length c0] w fun e w' => ∃ bR : Value, e = .returned (bR) ∧ Kd.S (Kd.rows 72 k72) 23 w' w.heap.size (fun _ => True) bR r ∧ Below w.heap.size w w' := by
 have b3 := A_ bQ; have b8 := A_ hc0; clear bQ hc0; have HB := A_ (Below.refl w.heap.size w); have H := h; unfold laws_toCellSS.f at H; clear h
 by_cases c2 : 0 ≤ (l0.length : Int)
 ·rw [if_pos c2] at H
  have a9 := eq_true c2; have bA := dt c2; clear c2
  by_cases c3 : ((l0.length : Int) : Int).toNat ≤ 11728124029610
  ·rw [if_pos c3] at H
   have bB := eq_true c3; have bC := dt c3; clear c3; obtain ⟨bD, aF⟩ : ∃ y_ : List (List (S72)), y_ = (List.replicate ((l0.length : Int) : Int).toNat []) := ⟨_, rfl⟩
   first | rw [← aF, Option.bind_some] at H | rw [← aF] at H
   have aM := A_ aF; clear aF; have H' := A_ H; clear H
   go_enter Try.func39, Try.ntmps39
   go_wp2_with (first | ((with_reducible refine gate_dst (N := 7) rfl ?_); refine Kd.S_make (Kd.rows 72 k72) _ 23 rfl (N := 7) rfl 24 _ _ rfl (l0.length : Int) rfl rfl Try.underlying24 (.slice none 0 0) 24 info23 rfl (by decide) (by omega) [] (ok := fun _ => True) (okp := fun _ => True) ⟨_, rfl, Kd.S_nil _ _ _ _ _⟩ (fun _ hk => hk) trivial (odt) (Nat.le_trans (Nat.mul_le_mul_right _ (odt : (l0.length : Int).toNat ≤ 11728124029610)) (by omega)) (Below.refl _ _) (Nat.le_refl _) ?_; intro bE w4 aY hb hg_ hnew_; clear hg_ hnew_; (first | rw [← aM.out] at aY | (simp only [Int.reduceToNat] at aY; rw [← aM.out] at aY)); have aZ := A_ (Kd.S_lower aY (bz Z1)); replace HB := A_ (bst Z1 hb); clear hb aY))
   go_loopg [4] k (fun kq v4 w' => ∃ (aE : List (List (S72))) (aA : Int), v4 = .int .i64 aA ∧ Aside0 (laws_toCellSS.l0 kq l0 aE aA = some r) ∧ Aside0 (kq ≤ k) ∧ Aside0 (Kd.S (Kd.rows 72 k72) 23 w' w.heap.size (fun _ => True) bE aE) ∧ Aside0 (Below w.heap.size w w'))
   case atStart => exact ⟨(bD), (0), Z17, H', ⟨Nat.le_refl _⟩, ⟨Z8 aZ.out⟩, ⟨Z1⟩⟩
   case round =>
    clear H'; try clear c2
    try clear a9
    try clear bA
    try clear c3
    try clear bB
    try clear bC
    obtain ⟨aE, aA, rfl, HA, bT, aC, HB⟩ := hrel
    cases gk with
    | zero => exact absurd HA.out (by simp [laws_toCellSS.l0])
    | succ k1 =>
     have H := HA.out; clear HA; simp only [laws_toCellSS.l0] at H
     by_cases c6 : aA < (l0.length : Int)
     ·rw [if_pos c6] at H
      have bF := dt c6; clear c6
      by_cases c7 : 0 ≤ aA
      ·rw [if_pos c7] at H
       have b4 := dt c7; clear c7; replace H := bS H; obtain ⟨a0, bU, H⟩ := H
       try dsimp only at H
       have A8 := A_ bU; clear bU
       by_cases c9 : aA < (aE.length : Int)
       ·rw [if_pos c9] at H
        have b5 := dt c9; clear c9; obtain ⟨a1, aG⟩ : ∃ y_ : List (List (S72)), y_ = (aE.set (aA : Int).toNat a0) := ⟨_, rfl⟩
        first | rw [← aG, Option.bind_some] at H | rw [← aG] at H
        have a2 := A_ aG; clear aG; have H' := A_ H; clear H; have aP : 0 ≤ (aA : Int) := odt; have aQ : aA < (l0.length : Int) := odt; obtain ⟨bV, aR, aS, bG, aH, aI, aJ⟩ := at_L13 b3.out aA aP aQ; cases bG; replace aH := ZC HB.out aH; have aK := A_ aJ; have aL := A_ aI; clear aJ aI; replace aP := eq_true aP; replace aQ := eq_true aQ
        go_wp2_with (first | ((with_reducible refine gate_callee (f := 38) rfl ?_); refine gL 20 Try.func38 #[.slice aR (rd_L13 l0 aA).length aS] ?_; (with_reducible refine (laws_toCellS.calls k1 _ _ (rd_L13 l0 aA) a0 _ ?s1 aL.out A8.out).mono ?_); (case s1 => exact Z4 aK.out); rintro e bW ⟨bH, rfl, bX, hb⟩; refine ⟨_, rfl, ?_⟩; obtain ⟨s11, bY, h1_⟩ := Kd.S_split (Z8 aC.out) bX hb (bz Z1); have bZ := A_ bY; have b0 := A_ h1_; clear bY h1_; have b1 := A_ (bst Z1 hb); clear aC; clear HB; have aC := bZ; have aD := b0; have HB := b1; clear bZ b0 b1; (try clear hb); (try clear bX); have a7 : 0 ≤ (aA : Int) := odt; have a8 : (aA : Int) < ((aE.length : Int) : Int) := odt; obtain ⟨aT, bI, a3, a4, bJ, b6, bK⟩ := Kd.S_form aC.out (by omega); (first | cases a3 | (injection a3 with ea_ en_ ec_; (first | subst ea_ | (injection ea_ with ea_; subst ea_)); subst ec_; clear en_)); have bL := A_ a4; clear a4 bJ bK; obtain ⟨b2, b7, a5, bM, aN, aO, a6, bN⟩ := Kd.S_elem aC.out [] (aA : Int) a7 a8; obtain ⟨bO, rfl, aU⟩ := bM; have aV := aN 0 _ rfl; have aW := aO 0; (try simp only [show ((Kd.rows 72 k72)).sz = 1 from rfl, Nat.mul_one, Nat.add_zero] at aV); (try simp only [show ((Kd.rows 72 k72)).sz = 1 from rfl, Nat.mul_one, Nat.add_zero] at aW); clear a5 aN aO aU a6 bN; have aX := Kd.S_rowput aC.out a7 a8 aD.out (fun _ _ => trivial); replace a7 := eq_true a7; replace a8 := eq_true a8) | ((with_reducible refine gate_store (t := 23) (p := 21) rfl ?_); refine store_event (t := 23) (p := 21) (v := ?vo_w13) (w1 := (bW.setCell ⟨aT, (aA : Int).toNat, none⟩ (bH))) ?hg ?ho ?hn ?hr ?_; (case ho => rfl); (case hg => rfl); (case hn => rfl); (case hr => first | (go_simp; done) | (go_simp; rfl) | ((first | (obtain ⟨_, _, aB⟩ := Kd.R_slice aD.out; subst aB) | (obtain ⟨_, _, aB⟩ := Kd.S_slice aD.out; subst aB) | (obtain ⟨_, _, aB⟩ := Kd.N_slice aD.out; subst aB)); first | (go_simp; done) | (go_simp; rfl))); intro bP hw; have hg : bW.grownBy bP (some aT) := (by rw [hw]; exact aX.2); have hp_ : Kd.S (Kd.rows 72 k72) 23 bP w.heap.size (fun _ => True) (.slice (some ⟨aT, 0, none⟩) aE.length bI) a1 := (by rw [hw, a2.out]; exact aX.1); clear aX; replace aC := A_ hp_; replace HB := A_ ((by rw [hw]; exact below_set (HB.out) bL.out : Below w.heap.size w bP)); clear aD; clear hg hw hp_))
        go_roundg k1
        case measure => have := bT.out; omega
        case rel => exact ⟨(a1), (wrap64 (aA + 1)), Z17, H', ⟨by have := bT.out; omega⟩, ⟨Z8 aC.out⟩, ⟨Z1⟩⟩
       ·rw [if_neg c9] at H
        exact absurd H (by simp)
      ·rw [if_neg c7] at H
       exact absurd H (by simp)
     ·rw [if_neg c6] at H
      have bF := df c6; clear c6; obtain rfl := Option.some.inj H
      go_wp2
      go_ret
      exact ⟨_, Z7, Z8 aC.out, Z1⟩
  ·exact Z50
 ·rw [if_neg c2] at H
  exact absurd H (by simp)
def laws_toHist.f (k : Nat) (aA : List (S89)) (aB : List (List (S89))) (aC : List (List (S89))) : Option ((List (S72)) × (List (List (S72))) × (List (List (S72)))) := (laws_toCellS.f k aA).bind fun aD => ((laws_toCellSS.f k aB).bind fun aE => ((laws_toCellSS.f k aC).bind fun aF => (some (aD, aE, aF))))
theorem laws_toHist.calls (k : Nat) (aW : Option Addr) (aX : Nat) (aH : List (S89)) (aY : Option Addr) (aZ : Nat) (aI : List (List (S89))) (a3 : Option Addr) (a4 : Nat) (aJ : List (List (S89))) (r1 : List (S72)) (r2 : List (List (S72))) (r3 : List (List (S72))) (w : World) (bB : Kd.C k89 w aW aH.length aH) (bC : aH.length ≤ aX) (bD : Kd.C (Kd.slice 89 k89) w aY aI.length aI) (bE : aI.length ≤ aZ) (bF : Kd.C (Kd.slice 89 k89) w a3 aJ.length aJ) (bG : aJ.length ≤ a4) (h : laws_toHist.f k aH aI aJ = some (r1, r2, r3)) :
  Calls Try.prog 15 #[.agg #[.slice aW aH.length aX, .slice aY aI.length aZ, .slice a3 aJ.length a4]] w fun e w' => ∃ (dR dS dT : Value) (f_ : Nat → Nat), e = .returned (.agg #[dR, dS, dT]) ∧ Kd.S k72 72 w' w.heap.size (fun k => f_ k = 0) dR r1 ∧ Kd.T (Kd.rows 72 k72) 23 w' w.heap.size (fun k => f_ k = 1) dS r2 ∧ Kd.T (Kd.rows 72 k72) 23 w' w.heap.size (fun k => f_ k = 2) dT r3 ∧ Below w.heap.size w w' := by
 have d5 := Try.underlying36; have d6 := Try.underlying26; have bN := A_ bB; have bO := A_ bC; clear bB bC; have bP := A_ bD; have bQ := A_ bE; clear bD bE; have bR := A_ bF; have bT := A_ bG; clear bF bG; have HB := A_ (Below.refl w.heap.size w); have HS := A_ (Nat.le_refl w.heap.size); have HE := A_ (Nat.le_refl w.heap.size); have H := h; unfold laws_toHist.f at H; clear h; replace H := bS H; obtain ⟨bA, dU, H⟩ := H
 try dsimp only at H
 have A2 := A_ dU; clear dU; replace H := bS H; obtain ⟨bK, dV, H⟩ := H
 try dsimp only at H
 have A3 := A_ dV; clear dV; replace H := bS H; obtain ⟨bU, dW, H⟩ := H
 try dsimp only at H
 have A4 := A_ dW; clear dW; simp only [Option.some.injEq, Prod.mk.injEq] at H; obtain ⟨rfl, rfl, rfl⟩ := H
 go_enter Try.func15, Try.ntmps15
 go_wp2_with (first | ((with_reducible refine gate_dst (N := 1) rfl ?_); refine be (cs := #[.slice aW aH.length aX, .slice aY aI.length aZ, .slice a3 aJ.length a4]) (t := 36) ?_; intro aK hg w5 hbox hb; have aM := A_ (bst Z1 hb); have aN := A_ (hbox); have aO := A_ (gl hg (bz Z1)); have aP := A_ (gl hg (bz Z1)); have ne_ := A_ (sz_below Z14 hb); clear HE; have HE := ne_; clear ne_; clear HB; have HB := aM; have aA := aN; have dX := aO; have GE326 := aP; clear aM aN aO aP; clear hb hbox hg) | ((with_reducible refine gate_dst (N := 2) rfl ?_); refine be (cs := #[.slice none 0 0, .slice none 0 0, .slice none 0 0]) (t := 26) ?_; intro aG hg w6 hbox hb; have aM := A_ (bb (Z2 aA.out) hb); have aN := A_ (bst (Z3 GE326.out) hb); have aO := A_ (hbox); have aP := A_ (gl hg (bz (Z3 GE326.out))); have aV := A_ (gl hg (bz (Z3 GE326.out))); have a9 := A_ ((by rw [hg]; exact nl (blk_lt (Z2 aA.out)) : aK ≠ aG)); have bH := A_ ((by rw [hg]; exact Nat.ne_of_gt (blk_lt (Z2 aA.out)) : aG ≠ aK)); have ne_ := A_ (sz_below Z14 hb); clear HE; have HE := ne_; clear ne_; clear aA; clear HB; have aA := aM; have HB := aN; have aB := aO; have dY := aP; have GE327 := aV; have a5 := a9; have a6 := bH; clear aM aN aO aP aV a9 bH; clear hb hbox hg) | ((with_reducible refine gate_dst (N := 3) rfl ?_); refine be (cs := #[.slice none 0 0, .slice none 0 0, .slice none 0 0]) (t := 26) ?_; intro aL hg w7 hbox hb; have aM := A_ (bb (Z2 aA.out) hb); have aN := A_ (bb (Z2 aB.out) hb); have aO := A_ (bst (Z5 GE326.out GE327.out) hb); have aP := A_ (hbox); have aV := A_ (gl hg (bz (Z5 GE326.out GE327.out))); have a9 := A_ (gl hg (bz (Z5 GE326.out GE327.out))); have bH := A_ ((by rw [hg]; exact nl (blk_lt (Z2 aA.out)) : aK ≠ aL)); have dZ := A_ ((by rw [hg]; exact Nat.ne_of_gt (blk_lt (Z2 aA.out)) : aL ≠ aK)); have d0 := A_ ((by rw [hg]; exact nl (blk_lt (Z2 aB.out)) : aG ≠ aL)); have d1 := A_ ((by rw [hg]; exact Nat.ne_of_gt (blk_lt (Z2 aB.out)) : aL ≠ aG)); have ne_ := A_ (sz_below Z14 hb); clear HE; have HE := ne_; clear ne_; clear aA; clear aB; clear HB; have aA := aM; have aB := aN; have HB := aO; have aC := aP; have d2 := aV; have GE328 := a9; have aE := bH; have a7 := dZ; have aD := d0; have a8 := d1; clear aM aN aO aP aV a9 bH dZ d0 d1; clear hb hbox hg; have d7 := a5.out; have d8 := a6.out; have d9 := aE.out; have eA := a7.out; obtain ⟨b6, b7, b8, b9, cA, cB⟩ := C3 aA.out) | ((with_reducible refine gate_callee (f := 38) rfl ?_); refine gL 6 Try.func38 #[.slice aW aH.length aX] ?_; (with_reducible refine (laws_toCellS.calls k _ _ aH bA _ ?s1 bO.out A2.out).mono ?_); (case s1 => exact Z4 bN.out); rintro e eH ⟨eB, rfl, bI, hb⟩; refine ⟨_, rfl, ?_⟩; obtain ⟨bV, bW, aQ, aR, aS, aT⟩ := Kd.S_win1 bI (bz Z26) Z14 hb.size; have aM := A_ (aQ); have aN := A_ (bb (Z2 aA.out) hb); have aO := A_ (bb (Z2 aB.out) hb); have aP := A_ (bb (Z2 aC.out) hb); have aV := A_ (bst Z26 hb); have nS_ := A_ (And.intro HS.out (And.intro aR aS)); have ne_ := A_ (aT); clear aQ aR aS aT; clear HS; have HS := nS_; clear nS_; clear HE; have HE := ne_; clear ne_; clear aA; clear aB; clear aC; clear HB; have aF := aM; have aA := aN; have aB := aO; have aC := aP; have HB := aV; clear aM aN aO aP aV; (try clear hb); (try clear bI); obtain ⟨bL, bM, dM⟩ := Kd.S_slice aF.out; subst dM; have d3 := a8.out; have d4 := aD.out; obtain ⟨cC, cD, cE, cF, cG, cH⟩ := C3 aC.out; obtain ⟨cI, cJ, cK, cL, cM, cN⟩ := C3 aA.out) | ((with_reducible refine gate_callee (f := 39) rfl ?_); refine gL 10 Try.func39 #[.slice aY aI.length aZ] ?_; (with_reducible refine (laws_toCellSS.calls k _ _ aI bK _ ?s1 bQ.out A3.out).mono ?_); (case s1 => exact Kd.C_below bP.out Z26); rintro e eI ⟨eC, rfl, bI, hb⟩; refine ⟨_, rfl, ?_⟩; obtain ⟨bX, bY, aQ, aR, aS, aT⟩ := Kd.S_win1 bI (bz Z26) Z14 hb.size; have aM := A_ (Kd.S_below (by (with_reducible repeat (first | apply Kd.S_alloc | apply Kd.S_drewN | apply Kd.S_drew)); exact (ST1 aF.out aC.out)) hb); have aN := A_ (aQ); have aO := A_ (bb (g := aK) (o := .cells #[.slice aW aH.length aX, .slice aY aI.length aZ, .slice a3 aJ.length a4] 36 (0, 0)) (Z33 aE.out aA.out) hb); have aP := A_ (bb (g := aG) (o := .cells #[.slice none 0 0, .slice none 0 0, .slice none 0 0] 26 (0, 0)) (Z33 aD.out aB.out) hb); have aV := A_ (bb (g := aL) (o := .cells #[.slice bL bA.length bM, .slice none 0 0, .slice none 0 0] 26 (0, 0)) (bp0 aC.out) hb); have a9 := A_ (bst Z26 hb); have nS_ := A_ (And.intro HS.out (And.intro aR aS)); have ne_ := A_ (aT); clear aQ aR aS aT; clear HS; have HS := nS_; clear nS_; clear HE; have HE := ne_; clear ne_; clear aF; clear aA; clear aB; clear aC; clear HB; have aF := aM; have aU := aN; have aA := aO; have aB := aP; have aC := aV; have HB := a9; clear aM aN aO aP aV a9; (try clear hb); (try clear bI); obtain ⟨bZ, b3, dN⟩ := Kd.S_slice aU.out; subst dN; obtain ⟨cO, cP, cQ, cR, cS, cT⟩ := C3 aC.out; obtain ⟨cU, cV, cW, cX, cY, cZ⟩ := C3 aA.out) | ((with_reducible refine gate_callee (f := 39) rfl ?_); refine gL 14 Try.func39 #[.slice a3 aJ.length a4] ?_; (with_reducible refine (laws_toCellSS.calls k _ _ aJ bU _ ?s1 bT.out A4.out).mono ?_); (case s1 => exact Kd.C_below bR.out Z26); rintro e eJ ⟨eD, rfl, bI, hb⟩; refine ⟨_, rfl, ?_⟩; obtain ⟨b4, b5, aQ, aR, aS, aT⟩ := Kd.S_win1 bI (bz Z26) Z14 hb.size; have aM := A_ (Kd.S_below (by (with_reducible repeat (first | apply Kd.S_alloc | apply Kd.S_drewN | apply Kd.S_drew)); exact (ST1 aF.out aC.out)) hb); have aN := A_ (Kd.S_below (by (with_reducible repeat (first | apply Kd.S_alloc | apply Kd.S_drewN | apply Kd.S_drew)); exact (ST1 aU.out aC.out)) hb); have aO := A_ (aQ); have aP := A_ (bb (g := aK) (o := .cells #[.slice aW aH.length aX, .slice aY aI.length aZ, .slice a3 aJ.length a4] 36 (0, 0)) (Z33 aE.out aA.out) hb); have aV := A_ (bb (g := aG) (o := .cells #[.slice none 0 0, .slice none 0 0, .slice none 0 0] 26 (0, 0)) (Z33 aD.out aB.out) hb); have a9 := A_ (bb (g := aL) (o := .cells #[.slice bL bA.length bM, .slice bZ bK.length b3, .slice none 0 0] 26 (0, 0)) (bp0 aC.out) hb); have bH := A_ (bst Z26 hb); have nS_ := A_ (And.intro HS.out (And.intro aR aS)); have ne_ := A_ (aT); clear aQ aR aS aT; clear HS; have HS := nS_; clear nS_; clear HE; have HE := ne_; clear ne_; clear aF; clear aU; clear aA; clear aB; clear aC; clear HB; have aF := aM; have aU := aN; have bJ := aO; have aA := aP; have aB := aV; have aC := a9; have HB := bH; clear aM aN aO aP aV a9 bH; (try clear hb); (try clear bI); obtain ⟨dO, dP, dQ⟩ := Kd.S_slice bJ.out; subst dQ; obtain ⟨dA, dB, dC, dD, dE, dF⟩ := C3 aC.out; obtain ⟨dG, dH, dI, dJ, dK, dL⟩ := C3 aB.out))
 refine bodyPost_ret (results_cell_row rfl _ _ aG 26 #[.slice bL bA.length bM, .slice bZ bK.length b3, .slice dO bU.length dP] (0, 0) _ rfl (bp1 aB.out aD.out) Try.underlying26 rfl (by kernel_rfl)) rfl ?_
 have hs_ := HS.out; obtain ⟨fh, eE, eF, eG⟩ := Kd.three (a0 := bV) (b0 := bW) (a1 := bX) (b1 := bY) (a2 := b4) (b2 := b5) (by omega) (by omega) (by omega)
 exact ⟨_, _, _, fh, Z7, by (with_reducible repeat (first | apply Kd.S_alloc | apply Kd.S_drewN | apply Kd.S_drew)); exact Kd.S_mono (Sf (Sf (Sf (Kd.S_far (Kd.S_types (Kd.S_types aF.out aC.out (by decide)) aB.out (by decide)) (fun _ hk => hk.1.2) _)))) (fun k hk => eE k hk.1.1), Kd.T_of (by (with_reducible repeat (first | apply Kd.S_alloc | apply Kd.S_drewN | apply Kd.S_drew)); exact Kd.S_mono (Sf (Sf (Sf (Kd.S_far (Kd.S_types (Kd.S_types aU.out aC.out (by decide)) aB.out (by decide)) (fun _ hk => hk.1.2) _)))) (fun k hk => eF k hk.1.1)), Kd.T_of (by (with_reducible repeat (first | apply Kd.S_alloc | apply Kd.S_drewN | apply Kd.S_drew)); exact Kd.S_mono (Sf (Sf (Sf (Kd.S_far (Kd.S_types (Kd.S_types bJ.out aC.out (by decide)) aB.out (by decide)) (fun _ hk => hk.1.2) _)))) (fun k hk => eG k hk.1.1)), Z26⟩
def laws_eqSlot.f (aA : Int) (aB : Int) (aC : Int) (aD : Int) : Option (Bool) := if aA = aC then (if aB = aD then (some true) else (some false)) else (some false)
theorem laws_eqSlot.calls (aG : Int) (aH : Int) (aI : Int) (aJ : Int) (r : Bool) (w : World) (h : laws_eqSlot.f aG aH aI aJ = some r) :
  Calls Try.prog 102 #[.agg #[.int .i64 aG, .int .i64 aH], .agg #[.int .i64 aI, .int .i64 aJ]] w fun e w' => e = .returned (.bool r) ∧ Below w.heap.size w w' := by
 have bK := Try.underlying96; have HB := A_ (Below.refl w.heap.size w); have H := h; unfold laws_eqSlot.f at H; clear h
 by_cases c3 : aG = aI
 ·rw [if_pos c3] at H
  have a4 : (aG == aI) = true := beq_iff_eq.mpr c3; have a5 : (aG != aI) = false := bne_eq_false_iff_eq.mpr c3; clear c3
  by_cases c4 : aH = aJ
  ·rw [if_pos c4] at H
   have a6 : (aH == aJ) = true := beq_iff_eq.mpr c4; have a7 : (aH != aJ) = false := bne_eq_false_iff_eq.mpr c4; clear c4; obtain rfl := Option.some.inj H
   go_enter Try.func102, Try.ntmps102
   go_wp2_with (first | ((with_reducible refine gate_dst (N := 2) rfl ?_); refine be (cs := #[.int .i64 aG, .int .i64 aH]) (t := 96) ?_; intro aE hg w5 hbox hb; have aA := A_ hbox; have aK := A_ (gl hg (bz Z1)); have aD := aK; replace HB := A_ (bst Z1 hb); clear hb hbox hg) | ((with_reducible refine gate_dst (N := 3) rfl ?_); refine be (cs := #[.int .i64 aI, .int .i64 aJ]) (t := 96) ?_; intro aF hg w6 hbox hb; have aL := A_ hbox; have aM := A_ (gl hg (bz (Z3 aD.out))); have aN := aM; replace HB := A_ (bst (Z3 aD.out) hb); have aB := A_ ((by rw [hg]; exact nl (blk_lt (Z2 aA.out)) : aE ≠ aF)); have aC := A_ ((by rw [hg]; exact Nat.ne_of_gt (blk_lt (Z2 aA.out)) : aF ≠ aE)); replace aA := A_ (bb (Z2 aA.out) hb); clear hb hbox hg; have bL := aB.out; have bM := aC.out; obtain ⟨a8, a9, bA, bB⟩ := C2 aA.out; obtain ⟨bC, bD, bE, bF⟩ := C2 aL.out))
   go_ret
   exact ⟨Z7, Z5 aD.out aN.out⟩
  ·rw [if_neg c4] at H
   have a6 : (aH == aJ) = false := beq_eq_false_iff_ne.mpr c4; have a7 : (aH != aJ) = true := bne_iff_ne.mpr c4; obtain rfl := Option.some.inj H
   go_enter Try.func102, Try.ntmps102
   go_wp2_with (first | ((with_reducible refine gate_dst (N := 2) rfl ?_); refine be (cs := #[.int .i64 aG, .int .i64 aH]) (t := 96) ?_; intro aE hg bN hbox hb; have aA := A_ hbox; have aK := A_ (gl hg (bz Z1)); have aD := aK; replace HB := A_ (bst Z1 hb); clear hb hbox hg) | ((with_reducible refine gate_dst (N := 3) rfl ?_); refine be (cs := #[.int .i64 aI, .int .i64 aJ]) (t := 96) ?_; intro aF hg bO hbox hb; have aL := A_ hbox; have aM := A_ (gl hg (bz (Z3 aD.out))); have aN := aM; replace HB := A_ (bst (Z3 aD.out) hb); have aB := A_ ((by rw [hg]; exact nl (blk_lt (Z2 aA.out)) : aE ≠ aF)); have aC := A_ ((by rw [hg]; exact Nat.ne_of_gt (blk_lt (Z2 aA.out)) : aF ≠ aE)); replace aA := A_ (bb (Z2 aA.out) hb); clear hb hbox hg; have bG := aB.out; have bH := aC.out; obtain ⟨aO, aP, aQ, aR⟩ := C2 aA.out; obtain ⟨aS, aT, aU, aV⟩ := C2 aL.out))
   go_ret
   exact ⟨Z7, Z5 aD.out aN.out⟩
 ·rw [if_neg c3] at H
  have a4 : (aG == aI) = false := beq_eq_false_iff_ne.mpr c3; have a5 : (aG != aI) = true := bne_iff_ne.mpr c3; obtain rfl := Option.some.inj H
  go_enter Try.func102, Try.ntmps102
  go_wp2_with (first | ((with_reducible refine gate_dst (N := 2) rfl ?_); refine be (cs := #[.int .i64 aG, .int .i64 aH]) (t := 96) ?_; intro aE hg bP hbox hb; have aA := A_ hbox; have aK := A_ (gl hg (bz Z1)); have aD := aK; replace HB := A_ (bst Z1 hb); clear hb hbox hg) | ((with_reducible refine gate_dst (N := 3) rfl ?_); refine be (cs := #[.int .i64 aI, .int .i64 aJ]) (t := 96) ?_; intro aF hg bQ hbox hb; have aL := A_ hbox; have aM := A_ (gl hg (bz (Z3 aD.out))); have aN := aM; replace HB := A_ (bst (Z3 aD.out) hb); have aB := A_ ((by rw [hg]; exact nl (blk_lt (Z2 aA.out)) : aE ≠ aF)); have aC := A_ ((by rw [hg]; exact Nat.ne_of_gt (blk_lt (Z2 aA.out)) : aF ≠ aE)); replace aA := A_ (bb (Z2 aA.out) hb); clear hb hbox hg; have bI := aB.out; have bJ := aC.out; obtain ⟨aW, aX, aY, aZ⟩ := C2 aA.out; obtain ⟨a0, a1, a2, a3⟩ := C2 aL.out))
  go_ret
  exact ⟨Z7, Z5 aD.out aN.out⟩
end Go.Proofs.Ytgbbcebjgpoioaa.PFnExactHistRedo
