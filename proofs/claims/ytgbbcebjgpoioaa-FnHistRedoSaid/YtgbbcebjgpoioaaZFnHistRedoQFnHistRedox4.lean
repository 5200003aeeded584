/- Walks (lines of the print; no condition). -/
import Derived.Test.YtgbbcebjgpoioaaZFnHistRedoQFnHistRedox1
namespace Go.Proofs.Ytgbbcebjgpoioaa.PFnHistRedo
open Go.RowKit Go.Proofs.YtgbbcebjgpoioaaW.PrintWords Go.Proofs.YtgbbcebjgpoioaaW.PrintLast Go.Proofs.YtgbbcebjgpoioaaW.PrintMore
attribute [local go_sem] max2_int min2_int max_two min_two max_three min_three max_four min_four
set_option linter.unusedVariables false
set_option linter.unusedSimpArgs false
attribute [local go_sem high] eqA96
def impl_placeCmp.l0 : Nat → List (S96) → List (S96) → Int → Int → Option (Int)
 | 0, _, _, _, _ => none
 | k + 1, x0, x1, aB, aA => if aA < aB then (if 0 ≤ aA then (if aA < (x0.length : Int) then (if aA < (x1.length : Int) then (if (((rd_T96 x0 aA).f0) == ((rd_T96 x1 aA).f0) && (((rd_T96 x0 aA).f1) == ((rd_T96 x1 aA).f1))) = true then (impl_placeCmp.l0 k x0 x1 aB (wrap64 (aA + 1))) else (if ((rd_T96 x0 aA).f0) < ((rd_T96 x1 aA).f0) then (some (-1)) else (if ((rd_T96 x0 aA).f0) = ((rd_T96 x1 aA).f0) then (if ((rd_T96 x0 aA).f1) < ((rd_T96 x1 aA).f1) then (some (-1)) else (some 1)) else (some 1)))) else (none)) else (none)) else (none)) else (if (x0.length : Int) < (x1.length : Int) then (some (-1)) else (if (x0.length : Int) > (x1.length : Int) then (some 1) else (some 0)))
def impl_placeCmp.f (k : Nat) (l0 : List (S96)) (l1 : List (S96)) : Option (Int) := impl_placeCmp.l0 k l0 l1 (mn (l0.length : Int) (l1.length : Int)) 0
def impl_placeCmp.T4 : Bool × List (List Nat × List Nat) := (true, [([], []), ([], []), ([0, 1], [0, 1]), ([2], [2]), ([], []), ([], []), ([4, 5], [4, 5]), ([6], [6]), ([], []), ([], []), ([8, 3, 0, 1, 2, 3, 8, 9], [3, 8]), ([9, 7, 10, 0, 1, 2, 3, 4, 5, 6, 7, 8, 9, 10], [7, 9])])
def impl_placeCmp.B4 : List Nat := [0, 0, 3, 7, 0, 0, 48, 112, 0, 0, 783, 2047]
theorem impl_placeCmp.tab4 : rtab .any (opsOf Try.f63 4) = impl_placeCmp.T4 := by kernel_rfl
theorem impl_placeCmp.bits4 : waitsOk impl_placeCmp.T4.2 impl_placeCmp.B4 = true := by kernel_rfl
set_option maxHeartbeats 8000000 in
set_option maxRecDepth 100000 in
theorem impl_placeCmp.calls (k : Nat) (A0 : Option Addr) (c0 : Nat) (l0 : List (S96)) (A1 : Option Addr) (c1 : Nat) (l1 : List (S96)) (r : Int) (w : World) (eS : Kd.C k96 w A0 l0.length l0) (hc0 : l0.length ≤ c0) (hr1 : Kd.C k96 w A1 l1.length l1) (eT : l1.length ≤ c1) (h : impl_placeCmp.f k l0 l1 = some r) :
  Calls Try.prog 63 #[.slice A0 l0.length c0, .slice A1 l1.length c1] w fun e w' => e = .returned (.int .i64 r) ∧ Below w.heap.size w w' := by
 have fS := Try.underlying96; have bW := A_ eS; have gY := A_ hc0; clear eS hc0; have bX := A_ hr1; have gZ := A_ eT; clear hr1 eT; have HB := A_ (Below.refl w.heap.size w); have H := h; unfold impl_placeCmp.f at H; clear h; obtain ⟨bT, hji3⟩ : ∃ j_ : Int, (mn (l0.length : Int) (l1.length : Int)) = j_ := ⟨_, rfl⟩
 first | rw [hji3] at H | simp only [hji3] at H
 (try (have eU : 0 ≤ bT := by (rw [← hji3]; unfold mn; (repeat' split) <;> omega))); (try (have eV : 0 ≤ bT := by omega)); have bY : (if (l1.length : Int) < (l0.length : Int) then (l1.length : Int) else (l0.length : Int)) = bT := hji3
 have eW : (if l1.length < l0.length then (l1.length : Int) else (l0.length : Int)) = bT := by rw [← bY]; simp only [Int.ofNat_lt]
 have H' := A_ H; clear H
 go_enter Try.func63, Try.ntmps63
 go_wp2
 go_loopg [13] k (fun kq fT w' => ∃ (aA : Int), fT = .int .i64 aA ∧ Aside0 (impl_placeCmp.l0 kq l0 l1 bT aA = some r) ∧ Aside0 (kq ≤ k) ∧ Aside0 (Below w.heap.size w w'))
 case atStart => exact ⟨(0), Z26, H', ⟨Nat.le_refl _⟩, ⟨Z2⟩⟩
 case round =>
  clear H'; try clear c1
  obtain ⟨aA, rfl, HA, eX, HB⟩ := hrel
  cases gk with
  | zero => exact absurd HA.out (by simp [impl_placeCmp.l0])
  | succ k1 =>
   have H := HA.out; clear HA; simp only [impl_placeCmp.l0] at H
   by_cases c4 : aA < bT
   ·rw [if_pos c4] at H
    have eP := dt c4; clear c4
    by_cases c5 : 0 ≤ aA
    ·rw [if_pos c5] at H
     have fU := dt c5; clear c5
     by_cases c6 : aA < (l0.length : Int)
     ·rw [if_pos c6] at H
      have fV := dt c6; clear c6
      by_cases c7 : aA < (l1.length : Int)
      ·rw [if_pos c7] at H
       have fW := dt c7; clear c7
       by_cases c8 : (((rd_T96 l0 aA).f0) == ((rd_T96 l1 aA).f0) && (((rd_T96 l0 aA).f1) == ((rd_T96 l1 aA).f1))) = true
       ·rw [if_pos c8] at H
        have bZ : (((rd_T96 l0 aA).f0) == ((rd_T96 l1 aA).f0) && (((rd_T96 l0 aA).f1) == ((rd_T96 l1 aA).f1))) = true := c8; (try (have eQ : decide (((rd_T96 l0 aA).f0) = ((rd_T96 l1 aA).f0) && (((rd_T96 l0 aA).f1) == ((rd_T96 l1 aA).f1))) = true := by simpa using c8)); (try (have eR : (((rd_T96 l0 aA).f0) == ((rd_T96 l1 aA).f0) && (((rd_T96 l0 aA).f1) == ((rd_T96 l1 aA).f1))) = true := by simpa using c8)); clear c8; have H' := A_ H; clear H
        try go_wp2
        replace HB := A_ (below_drew1 HB.out); have aV : 0 ≤ (aA : Int) := odt; have aW : aA < (l0.length : Int) := odt; obtain ⟨aP, aZ, aR, aS⟩ := at_T96 bW.out aA aV aW; have aD := aS; have aE := aR; cases aZ; replace aR := ZC HB.out aR; replace aS := ZC HB.out aS; replace aV := eq_true aV; replace aW := eq_true aW; have aX : 0 ≤ (aA : Int) := odt; have aY : aA < (l1.length : Int) := odt; obtain ⟨aQ, a0, aT, aU⟩ := at_T96 bX.out aA aX aY; have aF := aU; have aG := aT; cases a0; replace aT := ZC HB.out aT; replace aU := ZC HB.out aU; replace aX := eq_true aX; replace aY := eq_true aY
        refine start_ (n := 12) (S := fun w' => w'.cell? (aP.add ((aA).toNat * 2)) = some (.int .i64 ((rd_T96 l0 aA).f0)) ∧ w'.cell? ⟨(aP.add ((aA).toNat * 2)).block, (aP.add ((aA).toNat * 2)).off + 1, none⟩ = some (.int .i64 ((rd_T96 l0 aA).f1)) ∧ w'.cell? (aQ.add ((aA).toNat * 2)) = some (.int .i64 ((rd_T96 l1 aA).f0)) ∧ w'.cell? ⟨(aQ.add ((aA).toNat * 2)).block, (aQ.add ((aA).toNat * 2)).off + 1, none⟩ = some (.int .i64 ((rd_T96 l1 aA).f1))) (ds := []) M73 (by kernel_rfl) rfl rfl ⟨(ZC HB.out aE :), (ZC HB.out aD :), (ZC HB.out aG :), (ZC HB.out aF :)⟩ (fun hHeld => ?_); refine with_tabW impl_placeCmp.tab4 impl_placeCmp.bits4 (fun HT_ HW_ => ?_)
        generalize wr.drew = w9 at HB aR aS aT aU hHeld ⊢; refine pU 0 16 M74 ?_; refine pU 1 17 M75 ?_; refine pU 2 18 M76 ?_; refine pU 4 20 M83 ?_; refine pU 5 21 M84 ?_; refine pU 6 22 M85 ?_; refine tU 3 19 M77 ?_ (y := Z47); refine tU 7 23 M78 ?_ (y := Z47)
        refine join_ (σ := Nat × Nat) 2 M80 (fun s_ => [(6, .pointer (some ⟨s_.1, 0, none⟩)), (7, .pointer (some ⟨s_.2, 0, none⟩))]) (fun s_ w' => (w'.cell? (aP.add ((aA).toNat * 2)) = some (.int .i64 ((rd_T96 l0 aA).f0)) ∧ w'.cell? ⟨(aP.add ((aA).toNat * 2)).block, (aP.add ((aA).toNat * 2)).off + 1, none⟩ = some (.int .i64 ((rd_T96 l0 aA).f1)) ∧ w'.cell? (aQ.add ((aA).toNat * 2)) = some (.int .i64 ((rd_T96 l1 aA).f0)) ∧ w'.cell? ⟨(aQ.add ((aA).toNat * 2)).block, (aQ.add ((aA).toNat * 2)).off + 1, none⟩ = some (.int .i64 ((rd_T96 l1 aA).f1))) ∧ (w'.heap[s_.1]? = some (.cells #[.int .i64 0, .int .i64 0] 96 (0, 0))) ∧ (w'.heap[s_.2]? = some (.cells #[.int .i64 0, .int .i64 0] 96 (0, 0))) ∧ (w.heap.size ≤ s_.1) ∧ (w.heap.size ≤ s_.1) ∧ (s_.2 ≠ s_.1) ∧ (s_.1 ≠ s_.2) ∧ (w.heap.size ≤ s_.2) ∧ (w.heap.size ≤ s_.2) ∧ (Below w.heap.size w w')) ?_ ?_
        rotate_left
        ·intro hCont
         refine two_ (i := 8) (j := 9) (Ni := some 6) (Nj := some 7) M79 M86 rfl rfl rfl rfl (two_of HT_.out (by kernel_rfl)) (by decide) (by decide) (fun K hK => ?_) (fun K hK => ?_)
         ·skip
          refine box_step ?hg (N := 6) ?hd (cs := #[.int .i64 0, .int .i64 0]) (t := 96) ?hr ?_; (case hd => rfl); (case hg => rfl); (case hr => exact Z48)
          intro aH hg fX hbox hb
          have aJ := A_ hbox; have aL := A_ (gl hg (bz Z2)); have aN := A_ (gl hg (bz Z2)); replace HB := A_ (bst Z2 hb); clear hb hbox hg
          refine hK.out _ _ ⟨(ZC HB.out aE :), (ZC HB.out aD :), (ZC HB.out aG :), (ZC HB.out aF :)⟩ (fun hHeld => ?_)
          clear hK K
          refine norm_ (a' := ?_) ?_ ?_
          rotate_left; (·exact Z46)
          refine oU 9 (some 7) M80 (fun K hK => ?_)
          refine box_step ?hg (N := 7) ?hd (cs := #[.int .i64 0, .int .i64 0]) (t := 96) ?hr ?_; (case hd => rfl); (case hg => rfl); (case hr => exact Z48)
          intro aI hg fY hbox hb
          have aK := A_ hbox; have aM := A_ (gl hg (bz (Z3 aN.out))); have aO := A_ (gl hg (bz (Z3 aN.out))); replace HB := A_ (bst (Z3 aN.out) hb); have aB := A_ ((by rw [hg]; exact nl (blk_lt (Z0 aJ.out)) : aH ≠ aI)); have aC := A_ ((by rw [hg]; exact Nat.ne_of_gt (blk_lt (Z0 aJ.out)) : aI ≠ aH)); replace aJ := A_ (bb (Z0 aJ.out) hb); clear hb hbox hg
          refine hK.out _ _ ⟨(ZC HB.out aE :), (ZC HB.out aD :), (ZC HB.out aG :), (ZC HB.out aF :)⟩ (fun hHeld => ?_)
          clear hK K
          refine norm_ (a' := ?_) ?_ ?_
          rotate_left; (·exact Z45)
          exact norm_ Z55 (hCont (aH, aI) _ ⟨hHeld, (Z0 aJ.out), (Z0 aK.out), aL.out, aN.out, aC.out, aB.out, aM.out, aO.out, (Z4 aN.out aO.out)⟩)
         ·skip
          refine box_step ?hg (N := 7) ?hd (cs := #[.int .i64 0, .int .i64 0]) (t := 96) ?hr ?_; (case hd => rfl); (case hg => rfl); (case hr => exact Z48)
          intro aI hg fX hbox hb
          have aK := A_ hbox; have aM := A_ (gl hg (bz Z2)); have aO := A_ (gl hg (bz Z2)); replace HB := A_ (bst Z2 hb); clear hb hbox hg
          refine hK.out _ _ ⟨(ZC HB.out aE :), (ZC HB.out aD :), (ZC HB.out aG :), (ZC HB.out aF :)⟩ (fun hHeld => ?_)
          clear hK K
          refine norm_ (a' := ?_) ?_ ?_
          rotate_left; (·exact Z45)
          refine oU 8 (some 6) M80 (fun K hK => ?_)
          refine box_step ?hg (N := 6) ?hd (cs := #[.int .i64 0, .int .i64 0]) (t := 96) ?hr ?_; (case hd => rfl); (case hg => rfl); (case hr => exact Z48)
          intro aH hg fY hbox hb
          have aJ := A_ hbox; have aL := A_ (gl hg (bz (Z3 aO.out))); have aN := A_ (gl hg (bz (Z3 aO.out))); replace HB := A_ (bst (Z3 aO.out) hb); have aC := A_ ((by rw [hg]; exact nl (blk_lt (Z0 aK.out)) : aI ≠ aH)); have aB := A_ ((by rw [hg]; exact Nat.ne_of_gt (blk_lt (Z0 aK.out)) : aH ≠ aI)); replace aK := A_ (bb (Z0 aK.out) hb); clear hb hbox hg
          refine hK.out _ _ ⟨(ZC HB.out aE :), (ZC HB.out aD :), (ZC HB.out aG :), (ZC HB.out aF :)⟩ (fun hHeld => ?_)
          clear hK K
          refine norm_ (a' := ?_) ?_ ?_
          rotate_left; (·exact Z46)
          exact norm_ Z55 (hCont (aH, aI) _ ⟨hHeld, (Z0 aJ.out), (Z0 aK.out), aL.out, aN.out, aC.out, aB.out, aM.out, aO.out, (Z4 aO.out aN.out)⟩)
        rintro ⟨aH, aI⟩ bJ ⟨hS_, a1, a2, a3, a4, a5, a6, a7, a8, a9⟩
        have bA : Aside0 (bJ.heap[aH]? = some (.cells #[.int .i64 0, .int .i64 0] 96 (0, 0))) := ⟨a1⟩; have bB : Aside0 (bJ.heap[aI]? = some (.cells #[.int .i64 0, .int .i64 0] 96 (0, 0))) := ⟨a2⟩; have bC : Aside0 (w.heap.size ≤ aH) := ⟨a3⟩; have bD : Aside0 (w.heap.size ≤ aH) := ⟨a4⟩; have bE : Aside0 (aI ≠ aH) := ⟨a5⟩; have bF : Aside0 (aH ≠ aI) := ⟨a6⟩; have bG : Aside0 (w.heap.size ≤ aI) := ⟨a7⟩; have bH : Aside0 (w.heap.size ≤ aI) := ⟨a8⟩; have bI : Aside0 (Below w.heap.size w bJ) := ⟨a9⟩; clear HB; clear a1 a2 a3 a4 a5 a6 a7 a8 a9; have aJ := bA; have aK := bB; have aL := bC; have aN := bD; have aC := bE; have aB := bF; have aM := bG; have aO := bH; have HB := bI; clear bA bB bC bD bE bF bG bH bI; have hHeld : bJ.cell? (aP.add ((aA).toNat * 2)) = some (.int .i64 ((rd_T96 l0 aA).f0)) ∧ bJ.cell? ⟨(aP.add ((aA).toNat * 2)).block, (aP.add ((aA).toNat * 2)).off + 1, none⟩ = some (.int .i64 ((rd_T96 l0 aA).f1)) ∧ bJ.cell? (aQ.add ((aA).toNat * 2)) = some (.int .i64 ((rd_T96 l1 aA).f0)) ∧ bJ.cell? ⟨(aQ.add ((aA).toNat * 2)).block, (aQ.add ((aA).toNat * 2)).off + 1, none⟩ = some (.int .i64 ((rd_T96 l1 aA).f1)) := hS_
        refine norm_ (a' := ?_) ?_ ?_
        rotate_left; (·exact Z93)
        refine oU 10 none M81 (fun K hK => ?_)
        have fZ : bJ.cell? ⟨aH, 0, none⟩ = some (.int .i64 0) := (bc aJ.out 0).trans rfl; have eY := blk_frozen aJ.out 0; have b7 := aC.out; have b8 := aB.out; have f4 : bJ.cell? ⟨aH, 1, none⟩ = some (.int .i64 0) := (bc aJ.out 1).trans rfl; have eZ := blk_frozen aJ.out 1; have b9 := aC.out; have cA := aB.out
        refine skip_ (w1 := ?_) (by rfl) rfl ?_ ?_
        rotate_left
        ·go_simp
         rfl
        refine hK.out _ _ ⟨(cf (nb aE aL.out) (cf (nb aE aL.out) hHeld.1)), (cf (nb aD aL.out) (cf (nb aD aL.out) hHeld.2.1)), (cf (nb aG aL.out) (cf (nb aG aL.out) hHeld.2.2.1)), (cf (nb aF aL.out) (cf (nb aF aL.out) hHeld.2.2.2))⟩ (fun hHeld => ?_)
        clear hK K
        refine oU 11 none M82 (fun K hK => ?_)
        have f5 : bJ.cell? ⟨aI, 0, none⟩ = some (.int .i64 0) := (bc aK.out 0).trans rfl; have e0 := blk_frozen aK.out 0; have cB := aB.out; have cC := aC.out; have f6 : bJ.cell? ⟨aI, 1, none⟩ = some (.int .i64 0) := (bc aK.out 1).trans rfl; have e1 := blk_frozen aK.out 1; have cD := aB.out; have cE := aC.out
        refine skip_ (w1 := ?_) (by rfl) rfl ?_ ?_
        rotate_left
        ·go_simp
         rfl
        refine hK.out _ _ ⟨(cf (nb aE aM.out) (cf (nb aE aM.out) hHeld.1)), (cf (nb aD aM.out) (cf (nb aD aM.out) hHeld.2.1)), (cf (nb aG aM.out) (cf (nb aG aM.out) hHeld.2.2.1)), (cf (nb aF aM.out) (cf (nb aF aM.out) hHeld.2.2.2))⟩ (fun hHeld => ?_)
        clear hK K
        refine done_ (done_of HT_.out (by kernel_rfl)) ?_
        have e2 := aB.out; have e3 := aC.out; obtain ⟨cF, cG, cH, cI⟩ := C2 aJ.out; obtain ⟨cJ, cK, cL, cM⟩ := C2 aK.out
        try go_wp2
        go_roundg k1
        case measure => have := eX.out; omega
        case rel => exact ⟨(wrap64 (aA + 1)), Z26, H', ⟨by have := eX.out; omega⟩, ⟨Z4 aN.out aO.out⟩⟩
       ·rw [if_neg c8] at H
        have bZ : (((rd_T96 l0 aA).f0) == ((rd_T96 l1 aA).f0) && (((rd_T96 l0 aA).f1) == ((rd_T96 l1 aA).f1))) = false := by simpa using c8
        (try (have eQ : decide (((rd_T96 l0 aA).f0) = ((rd_T96 l1 aA).f0) && (((rd_T96 l0 aA).f1) == ((rd_T96 l1 aA).f1))) = false := by simpa using c8)); (try (have eR : (((rd_T96 l0 aA).f0) == ((rd_T96 l1 aA).f0) && (((rd_T96 l0 aA).f1) == ((rd_T96 l1 aA).f1))) = false := by simpa using c8)); (try (have f7 : ¬ (((rd_T96 l0 aA).f0) = ((rd_T96 l1 aA).f0) && (((rd_T96 l0 aA).f1) == ((rd_T96 l1 aA).f1))) := by simpa using c8)); clear c8
        by_cases bU : ((rd_T96 l0 aA).f0) < ((rd_T96 l1 aA).f0)
        ·rw [if_pos bU] at H
         have b0 := dt bU; clear bU; obtain rfl := Option.some.inj H
         try go_wp2
         replace HB := A_ (below_drew1 HB.out); have aV : 0 ≤ (aA : Int) := odt; have aW : aA < (l0.length : Int) := odt; obtain ⟨aP, aZ, aR, aS⟩ := at_T96 bW.out aA aV aW; have aD := aS; have aE := aR; cases aZ; replace aR := ZC HB.out aR; replace aS := ZC HB.out aS; replace aV := eq_true aV; replace aW := eq_true aW; have aX : 0 ≤ (aA : Int) := odt; have aY : aA < (l1.length : Int) := odt; obtain ⟨aQ, a0, aT, aU⟩ := at_T96 bX.out aA aX aY; have aF := aU; have aG := aT; cases a0; replace aT := ZC HB.out aT; replace aU := ZC HB.out aU; replace aX := eq_true aX; replace aY := eq_true aY
         refine start_ (n := 12) (S := fun w' => w'.cell? (aP.add ((aA).toNat * 2)) = some (.int .i64 ((rd_T96 l0 aA).f0)) ∧ w'.cell? ⟨(aP.add ((aA).toNat * 2)).block, (aP.add ((aA).toNat * 2)).off + 1, none⟩ = some (.int .i64 ((rd_T96 l0 aA).f1)) ∧ w'.cell? (aQ.add ((aA).toNat * 2)) = some (.int .i64 ((rd_T96 l1 aA).f0)) ∧ w'.cell? ⟨(aQ.add ((aA).toNat * 2)).block, (aQ.add ((aA).toNat * 2)).off + 1, none⟩ = some (.int .i64 ((rd_T96 l1 aA).f1))) (ds := []) M73 (by kernel_rfl) rfl rfl ⟨(ZC HB.out aE :), (ZC HB.out aD :), (ZC HB.out aG :), (ZC HB.out aF :)⟩ (fun hHeld => ?_); refine with_tabW impl_placeCmp.tab4 impl_placeCmp.bits4 (fun HT_ HW_ => ?_)
         generalize wr.drew = g3 at HB aR aS aT aU hHeld ⊢; refine pU 0 16 M74 ?_; refine pU 1 17 M75 ?_; refine pU 2 18 M76 ?_; refine pU 4 20 M83 ?_; refine pU 5 21 M84 ?_; refine pU 6 22 M85 ?_; refine tU 3 19 M77 ?_ (y := Z47); refine tU 7 23 M78 ?_ (y := Z47)
         refine join_ (σ := Nat × Nat) 2 M80 (fun s_ => [(6, .pointer (some ⟨s_.1, 0, none⟩)), (7, .pointer (some ⟨s_.2, 0, none⟩))]) (fun s_ w' => (w'.cell? (aP.add ((aA).toNat * 2)) = some (.int .i64 ((rd_T96 l0 aA).f0)) ∧ w'.cell? ⟨(aP.add ((aA).toNat * 2)).block, (aP.add ((aA).toNat * 2)).off + 1, none⟩ = some (.int .i64 ((rd_T96 l0 aA).f1)) ∧ w'.cell? (aQ.add ((aA).toNat * 2)) = some (.int .i64 ((rd_T96 l1 aA).f0)) ∧ w'.cell? ⟨(aQ.add ((aA).toNat * 2)).block, (aQ.add ((aA).toNat * 2)).off + 1, none⟩ = some (.int .i64 ((rd_T96 l1 aA).f1))) ∧ (w'.heap[s_.1]? = some (.cells #[.int .i64 0, .int .i64 0] 96 (0, 0))) ∧ (w'.heap[s_.2]? = some (.cells #[.int .i64 0, .int .i64 0] 96 (0, 0))) ∧ (w.heap.size ≤ s_.1) ∧ (w.heap.size ≤ s_.1) ∧ (s_.2 ≠ s_.1) ∧ (s_.1 ≠ s_.2) ∧ (w.heap.size ≤ s_.2) ∧ (w.heap.size ≤ s_.2) ∧ (Below w.heap.size w w')) ?_ ?_
         rotate_left
         ·intro hCont
          refine two_ (i := 8) (j := 9) (Ni := some 6) (Nj := some 7) M79 M86 rfl rfl rfl rfl (two_of HT_.out (by kernel_rfl)) (by decide) (by decide) (fun K hK => ?_) (fun K hK => ?_)
          ·skip
           refine box_step ?hg (N := 6) ?hd (cs := #[.int .i64 0, .int .i64 0]) (t := 96) ?hr ?_; (case hd => rfl); (case hg => rfl); (case hr => exact Z48)
           intro aH hg f8 hbox hb
           have aJ := A_ hbox; have aL := A_ (gl hg (bz Z2)); have aN := A_ (gl hg (bz Z2)); replace HB := A_ (bst Z2 hb); clear hb hbox hg
           refine hK.out _ _ ⟨(ZC HB.out aE :), (ZC HB.out aD :), (ZC HB.out aG :), (ZC HB.out aF :)⟩ (fun hHeld => ?_)
           clear hK K
           refine norm_ (a' := ?_) ?_ ?_
           rotate_left; (·exact Z46)
           refine oU 9 (some 7) M80 (fun K hK => ?_)
           refine box_step ?hg (N := 7) ?hd (cs := #[.int .i64 0, .int .i64 0]) (t := 96) ?hr ?_; (case hd => rfl); (case hg => rfl); (case hr => exact Z48)
           intro aI hg f9 hbox hb
           have aK := A_ hbox; have aM := A_ (gl hg (bz (Z3 aN.out))); have aO := A_ (gl hg (bz (Z3 aN.out))); replace HB := A_ (bst (Z3 aN.out) hb); have aB := A_ ((by rw [hg]; exact nl (blk_lt (Z0 aJ.out)) : aH ≠ aI)); have aC := A_ ((by rw [hg]; exact Nat.ne_of_gt (blk_lt (Z0 aJ.out)) : aI ≠ aH)); replace aJ := A_ (bb (Z0 aJ.out) hb); clear hb hbox hg
           refine hK.out _ _ ⟨(ZC HB.out aE :), (ZC HB.out aD :), (ZC HB.out aG :), (ZC HB.out aF :)⟩ (fun hHeld => ?_)
           clear hK K
           refine norm_ (a' := ?_) ?_ ?_
           rotate_left; (·exact Z45)
           exact norm_ Z55 (hCont (aH, aI) _ ⟨hHeld, (Z0 aJ.out), (Z0 aK.out), aL.out, aN.out, aC.out, aB.out, aM.out, aO.out, (Z4 aN.out aO.out)⟩)
          ·skip
           refine box_step ?hg (N := 7) ?hd (cs := #[.int .i64 0, .int .i64 0]) (t := 96) ?hr ?_; (case hd => rfl); (case hg => rfl); (case hr => exact Z48)
           intro aI hg f8 hbox hb
           have aK := A_ hbox; have aM := A_ (gl hg (bz Z2)); have aO := A_ (gl hg (bz Z2)); replace HB := A_ (bst Z2 hb); clear hb hbox hg
           refine hK.out _ _ ⟨(ZC HB.out aE :), (ZC HB.out aD :), (ZC HB.out aG :), (ZC HB.out aF :)⟩ (fun hHeld => ?_)
           clear hK K
           refine norm_ (a' := ?_) ?_ ?_
           rotate_left; (·exact Z45)
           refine oU 8 (some 6) M80 (fun K hK => ?_)
           refine box_step ?hg (N := 6) ?hd (cs := #[.int .i64 0, .int .i64 0]) (t := 96) ?hr ?_; (case hd => rfl); (case hg => rfl); (case hr => exact Z48)
           intro aH hg f9 hbox hb
           have aJ := A_ hbox; have aL := A_ (gl hg (bz (Z3 aO.out))); have aN := A_ (gl hg (bz (Z3 aO.out))); replace HB := A_ (bst (Z3 aO.out) hb); have aC := A_ ((by rw [hg]; exact nl (blk_lt (Z0 aK.out)) : aI ≠ aH)); have aB := A_ ((by rw [hg]; exact Nat.ne_of_gt (blk_lt (Z0 aK.out)) : aH ≠ aI)); replace aK := A_ (bb (Z0 aK.out) hb); clear hb hbox hg
           refine hK.out _ _ ⟨(ZC HB.out aE :), (ZC HB.out aD :), (ZC HB.out aG :), (ZC HB.out aF :)⟩ (fun hHeld => ?_)
           clear hK K
           refine norm_ (a' := ?_) ?_ ?_
           rotate_left; (·exact Z46)
           exact norm_ Z55 (hCont (aH, aI) _ ⟨hHeld, (Z0 aJ.out), (Z0 aK.out), aL.out, aN.out, aC.out, aB.out, aM.out, aO.out, (Z4 aO.out aN.out)⟩)
         rintro ⟨aH, aI⟩ bK ⟨hS_, a1, a2, a3, a4, a5, a6, a7, a8, a9⟩
         have bA : Aside0 (bK.heap[aH]? = some (.cells #[.int .i64 0, .int .i64 0] 96 (0, 0))) := ⟨a1⟩; have bB : Aside0 (bK.heap[aI]? = some (.cells #[.int .i64 0, .int .i64 0] 96 (0, 0))) := ⟨a2⟩; have bC : Aside0 (w.heap.size ≤ aH) := ⟨a3⟩; have bD : Aside0 (w.heap.size ≤ aH) := ⟨a4⟩; have bE : Aside0 (aI ≠ aH) := ⟨a5⟩; have bF : Aside0 (aH ≠ aI) := ⟨a6⟩; have bG : Aside0 (w.heap.size ≤ aI) := ⟨a7⟩; have bH : Aside0 (w.heap.size ≤ aI) := ⟨a8⟩; have bI : Aside0 (Below w.heap.size w bK) := ⟨a9⟩; clear HB; clear a1 a2 a3 a4 a5 a6 a7 a8 a9; have aJ := bA; have aK := bB; have aL := bC; have aN := bD; have aC := bE; have aB := bF; have aM := bG; have aO := bH; have HB := bI; clear bA bB bC bD bE bF bG bH bI; have hHeld : bK.cell? (aP.add ((aA).toNat * 2)) = some (.int .i64 ((rd_T96 l0 aA).f0)) ∧ bK.cell? ⟨(aP.add ((aA).toNat * 2)).block, (aP.add ((aA).toNat * 2)).off + 1, none⟩ = some (.int .i64 ((rd_T96 l0 aA).f1)) ∧ bK.cell? (aQ.add ((aA).toNat * 2)) = some (.int .i64 ((rd_T96 l1 aA).f0)) ∧ bK.cell? ⟨(aQ.add ((aA).toNat * 2)).block, (aQ.add ((aA).toNat * 2)).off + 1, none⟩ = some (.int .i64 ((rd_T96 l1 aA).f1)) := hS_
         refine norm_ (a' := ?_) ?_ ?_
         rotate_left; (·exact Z93)
         refine oU 10 none M81 (fun K hK => ?_)
         have gA : bK.cell? ⟨aH, 0, none⟩ = some (.int .i64 0) := (bc aJ.out 0).trans rfl; have e4 := blk_frozen aJ.out 0; have cN := aC.out; have cO := aB.out; have gB : bK.cell? ⟨aH, 1, none⟩ = some (.int .i64 0) := (bc aJ.out 1).trans rfl; have e5 := blk_frozen aJ.out 1; have cP := aC.out; have cQ := aB.out
         refine skip_ (w1 := ?_) (by rfl) rfl ?_ ?_
         rotate_left
         ·go_simp
          rfl
         refine hK.out _ _ ⟨(cf (nb aE aL.out) (cf (nb aE aL.out) hHeld.1)), (cf (nb aD aL.out) (cf (nb aD aL.out) hHeld.2.1)), (cf (nb aG aL.out) (cf (nb aG aL.out) hHeld.2.2.1)), (cf (nb aF aL.out) (cf (nb aF aL.out) hHeld.2.2.2))⟩ (fun hHeld => ?_)
         clear hK K
         refine oU 11 none M82 (fun K hK => ?_)
         have gC : bK.cell? ⟨aI, 0, none⟩ = some (.int .i64 0) := (bc aK.out 0).trans rfl; have e6 := blk_frozen aK.out 0; have cR := aB.out; have cS := aC.out; have gD : bK.cell? ⟨aI, 1, none⟩ = some (.int .i64 0) := (bc aK.out 1).trans rfl; have e7 := blk_frozen aK.out 1; have cT := aB.out; have cU := aC.out
         refine skip_ (w1 := ?_) (by rfl) rfl ?_ ?_
         rotate_left
         ·go_simp
          rfl
         refine hK.out _ _ ⟨(cf (nb aE aM.out) (cf (nb aE aM.out) hHeld.1)), (cf (nb aD aM.out) (cf (nb aD aM.out) hHeld.2.1)), (cf (nb aG aM.out) (cf (nb aG aM.out) hHeld.2.2.1)), (cf (nb aF aM.out) (cf (nb aF aM.out) hHeld.2.2.2))⟩ (fun hHeld => ?_)
         clear hK K
         refine done_ (done_of HT_.out (by kernel_rfl)) ?_
         have e8 := aB.out; have e9 := aC.out; obtain ⟨cV, cW, cX, cY⟩ := C2 aJ.out; obtain ⟨cZ, dA, dB, dC⟩ := C2 aK.out
         try go_wp2
         go_ret
         exact ⟨Z57, Z4 aN.out aO.out⟩
        ·rw [if_neg bU] at H
         have b0 := df bU; clear bU
         by_cases bR : ((rd_T96 l0 aA).f0) = ((rd_T96 l1 aA).f0)
         ·rw [if_pos bR] at H
          have bO : (((rd_T96 l0 aA).f0) == ((rd_T96 l1 aA).f0)) = true := beq_iff_eq.mpr bR
          have gE : (((rd_T96 l0 aA).f1) == ((rd_T96 l1 aA).f1)) = false := by have hq_ := bZ; rw [bO, Bool.true_and] at hq_; exact hq_
          have b1 : (((rd_T96 l0 aA).f0) != ((rd_T96 l1 aA).f0)) = false := bne_eq_false_iff_eq.mpr bR; clear bR
          by_cases bV : ((rd_T96 l0 aA).f1) < ((rd_T96 l1 aA).f1)
          ·rw [if_pos bV] at H
           have b2 := dt bV; clear bV; obtain rfl := Option.some.inj H
           try go_wp2
           replace HB := A_ (below_drew1 HB.out); have aV : 0 ≤ (aA : Int) := odt; have aW : aA < (l0.length : Int) := odt; obtain ⟨aP, aZ, aR, aS⟩ := at_T96 bW.out aA aV aW; have aD := aS; have aE := aR; cases aZ; replace aR := ZC HB.out aR; replace aS := ZC HB.out aS; replace aV := eq_true aV; replace aW := eq_true aW; have aX : 0 ≤ (aA : Int) := odt; have aY : aA < (l1.length : Int) := odt; obtain ⟨aQ, a0, aT, aU⟩ := at_T96 bX.out aA aX aY; have aF := aU; have aG := aT; cases a0; replace aT := ZC HB.out aT; replace aU := ZC HB.out aU; replace aX := eq_true aX; replace aY := eq_true aY
           refine start_ (n := 12) (S := fun w' => w'.cell? (aP.add ((aA).toNat * 2)) = some (.int .i64 ((rd_T96 l0 aA).f0)) ∧ w'.cell? ⟨(aP.add ((aA).toNat * 2)).block, (aP.add ((aA).toNat * 2)).off + 1, none⟩ = some (.int .i64 ((rd_T96 l0 aA).f1)) ∧ w'.cell? (aQ.add ((aA).toNat * 2)) = some (.int .i64 ((rd_T96 l1 aA).f0)) ∧ w'.cell? ⟨(aQ.add ((aA).toNat * 2)).block, (aQ.add ((aA).toNat * 2)).off + 1, none⟩ = some (.int .i64 ((rd_T96 l1 aA).f1))) (ds := []) M73 (by kernel_rfl) rfl rfl ⟨(ZC HB.out aE :), (ZC HB.out aD :), (ZC HB.out aG :), (ZC HB.out aF :)⟩ (fun hHeld => ?_); refine with_tabW impl_placeCmp.tab4 impl_placeCmp.bits4 (fun HT_ HW_ => ?_)
           generalize wr.drew = g4 at HB aR aS aT aU hHeld ⊢; refine pU 0 16 M74 ?_; refine pU 1 17 M75 ?_; refine pU 2 18 M76 ?_; refine pU 4 20 M83 ?_; refine pU 5 21 M84 ?_; refine pU 6 22 M85 ?_; refine tU 3 19 M77 ?_ (y := Z47); refine tU 7 23 M78 ?_ (y := Z47)
           refine join_ (σ := Nat × Nat) 2 M80 (fun s_ => [(6, .pointer (some ⟨s_.1, 0, none⟩)), (7, .pointer (some ⟨s_.2, 0, none⟩))]) (fun s_ w' => (w'.cell? (aP.add ((aA).toNat * 2)) = some (.int .i64 ((rd_T96 l0 aA).f0)) ∧ w'.cell? ⟨(aP.add ((aA).toNat * 2)).block, (aP.add ((aA).toNat * 2)).off + 1, none⟩ = some (.int .i64 ((rd_T96 l0 aA).f1)) ∧ w'.cell? (aQ.add ((aA).toNat * 2)) = some (.int .i64 ((rd_T96 l1 aA).f0)) ∧ w'.cell? ⟨(aQ.add ((aA).toNat * 2)).block, (aQ.add ((aA).toNat * 2)).off + 1, none⟩ = some (.int .i64 ((rd_T96 l1 aA).f1))) ∧ (w'.heap[s_.1]? = some (.cells #[.int .i64 0, .int .i64 0] 96 (0, 0))) ∧ (w'.heap[s_.2]? = some (.cells #[.int .i64 0, .int .i64 0] 96 (0, 0))) ∧ (w.heap.size ≤ s_.1) ∧ (w.heap.size ≤ s_.1) ∧ (s_.2 ≠ s_.1) ∧ (s_.1 ≠ s_.2) ∧ (w.heap.size ≤ s_.2) ∧ (w.heap.size ≤ s_.2) ∧ (Below w.heap.size w w')) ?_ ?_
           rotate_left
           ·intro hCont
            refine two_ (i := 8) (j := 9) (Ni := some 6) (Nj := some 7) M79 M86 rfl rfl rfl rfl (two_of HT_.out (by kernel_rfl)) (by decide) (by decide) (fun K hK => ?_) (fun K hK => ?_)
            ·skip
             refine box_step ?hg (N := 6) ?hd (cs := #[.int .i64 0, .int .i64 0]) (t := 96) ?hr ?_; (case hd => rfl); (case hg => rfl); (case hr => exact Z48)
             intro aH hg gF hbox hb
             have aJ := A_ hbox; have aL := A_ (gl hg (bz Z2)); have aN := A_ (gl hg (bz Z2)); replace HB := A_ (bst Z2 hb); clear hb hbox hg
             refine hK.out _ _ ⟨(ZC HB.out aE :), (ZC HB.out aD :), (ZC HB.out aG :), (ZC HB.out aF :)⟩ (fun hHeld => ?_)
             clear hK K
             refine norm_ (a' := ?_) ?_ ?_
             rotate_left; (·exact Z46)
             refine oU 9 (some 7) M80 (fun K hK => ?_)
             refine box_step ?hg (N := 7) ?hd (cs := #[.int .i64 0, .int .i64 0]) (t := 96) ?hr ?_; (case hd => rfl); (case hg => rfl); (case hr => exact Z48)
             intro aI hg gG hbox hb
             have aK := A_ hbox; have aM := A_ (gl hg (bz (Z3 aN.out))); have aO := A_ (gl hg (bz (Z3 aN.out))); replace HB := A_ (bst (Z3 aN.out) hb); have aB := A_ ((by rw [hg]; exact nl (blk_lt (Z0 aJ.out)) : aH ≠ aI)); have aC := A_ ((by rw [hg]; exact Nat.ne_of_gt (blk_lt (Z0 aJ.out)) : aI ≠ aH)); replace aJ := A_ (bb (Z0 aJ.out) hb); clear hb hbox hg
             refine hK.out _ _ ⟨(ZC HB.out aE :), (ZC HB.out aD :), (ZC HB.out aG :), (ZC HB.out aF :)⟩ (fun hHeld => ?_)
             clear hK K
             refine norm_ (a' := ?_) ?_ ?_
             rotate_left; (·exact Z45)
             exact norm_ Z55 (hCont (aH, aI) _ ⟨hHeld, (Z0 aJ.out), (Z0 aK.out), aL.out, aN.out, aC.out, aB.out, aM.out, aO.out, (Z4 aN.out aO.out)⟩)
            ·skip
             refine box_step ?hg (N := 7) ?hd (cs := #[.int .i64 0, .int .i64 0]) (t := 96) ?hr ?_; (case hd => rfl); (case hg => rfl); (case hr => exact Z48)
             intro aI hg gF hbox hb
             have aK := A_ hbox; have aM := A_ (gl hg (bz Z2)); have aO := A_ (gl hg (bz Z2)); replace HB := A_ (bst Z2 hb); clear hb hbox hg
             refine hK.out _ _ ⟨(ZC HB.out aE :), (ZC HB.out aD :), (ZC HB.out aG :), (ZC HB.out aF :)⟩ (fun hHeld => ?_)
             clear hK K
             refine norm_ (a' := ?_) ?_ ?_
             rotate_left; (·exact Z45)
             refine oU 8 (some 6) M80 (fun K hK => ?_)
             refine box_step ?hg (N := 6) ?hd (cs := #[.int .i64 0, .int .i64 0]) (t := 96) ?hr ?_; (case hd => rfl); (case hg => rfl); (case hr => exact Z48)
             intro aH hg gG hbox hb
             have aJ := A_ hbox; have aL := A_ (gl hg (bz (Z3 aO.out))); have aN := A_ (gl hg (bz (Z3 aO.out))); replace HB := A_ (bst (Z3 aO.out) hb); have aC := A_ ((by rw [hg]; exact nl (blk_lt (Z0 aK.out)) : aI ≠ aH)); have aB := A_ ((by rw [hg]; exact Nat.ne_of_gt (blk_lt (Z0 aK.out)) : aH ≠ aI)); replace aK := A_ (bb (Z0 aK.out) hb); clear hb hbox hg
             refine hK.out _ _ ⟨(ZC HB.out aE :), (ZC HB.out aD :), (ZC HB.out aG :), (ZC HB.out aF :)⟩ (fun hHeld => ?_)
             clear hK K
             refine norm_ (a' := ?_) ?_ ?_
             rotate_left; (·exact Z46)
             exact norm_ Z55 (hCont (aH, aI) _ ⟨hHeld, (Z0 aJ.out), (Z0 aK.out), aL.out, aN.out, aC.out, aB.out, aM.out, aO.out, (Z4 aO.out aN.out)⟩)
           rintro ⟨aH, aI⟩ bL ⟨hS_, a1, a2, a3, a4, a5, a6, a7, a8, a9⟩
           have bA : Aside0 (bL.heap[aH]? = some (.cells #[.int .i64 0, .int .i64 0] 96 (0, 0))) := ⟨a1⟩; have bB : Aside0 (bL.heap[aI]? = some (.cells #[.int .i64 0, .int .i64 0] 96 (0, 0))) := ⟨a2⟩; have bC : Aside0 (w.heap.size ≤ aH) := ⟨a3⟩; have bD : Aside0 (w.heap.size ≤ aH) := ⟨a4⟩; have bE : Aside0 (aI ≠ aH) := ⟨a5⟩; have bF : Aside0 (aH ≠ aI) := ⟨a6⟩; have bG : Aside0 (w.heap.size ≤ aI) := ⟨a7⟩; have bH : Aside0 (w.heap.size ≤ aI) := ⟨a8⟩; have bI : Aside0 (Below w.heap.size w bL) := ⟨a9⟩; clear HB; clear a1 a2 a3 a4 a5 a6 a7 a8 a9; have aJ := bA; have aK := bB; have aL := bC; have aN := bD; have aC := bE; have aB := bF; have aM := bG; have aO := bH; have HB := bI; clear bA bB bC bD bE bF bG bH bI; have hHeld : bL.cell? (aP.add ((aA).toNat * 2)) = some (.int .i64 ((rd_T96 l0 aA).f0)) ∧ bL.cell? ⟨(aP.add ((aA).toNat * 2)).block, (aP.add ((aA).toNat * 2)).off + 1, none⟩ = some (.int .i64 ((rd_T96 l0 aA).f1)) ∧ bL.cell? (aQ.add ((aA).toNat * 2)) = some (.int .i64 ((rd_T96 l1 aA).f0)) ∧ bL.cell? ⟨(aQ.add ((aA).toNat * 2)).block, (aQ.add ((aA).toNat * 2)).off + 1, none⟩ = some (.int .i64 ((rd_T96 l1 aA).f1)) := hS_
           refine norm_ (a' := ?_) ?_ ?_
           rotate_left; (·exact Z93)
           refine oU 10 none M81 (fun K hK => ?_)
           have gH : bL.cell? ⟨aH, 0, none⟩ = some (.int .i64 0) := (bc aJ.out 0).trans rfl; have fA := blk_frozen aJ.out 0; have dD := aC.out; have dE := aB.out; have gI : bL.cell? ⟨aH, 1, none⟩ = some (.int .i64 0) := (bc aJ.out 1).trans rfl; have fB := blk_frozen aJ.out 1; have dF := aC.out; have dG := aB.out
           refine skip_ (w1 := ?_) (by rfl) rfl ?_ ?_
           rotate_left
           ·go_simp
            rfl
           refine hK.out _ _ ⟨(cf (nb aE aL.out) (cf (nb aE aL.out) hHeld.1)), (cf (nb aD aL.out) (cf (nb aD aL.out) hHeld.2.1)), (cf (nb aG aL.out) (cf (nb aG aL.out) hHeld.2.2.1)), (cf (nb aF aL.out) (cf (nb aF aL.out) hHeld.2.2.2))⟩ (fun hHeld => ?_)
           clear hK K
           refine oU 11 none M82 (fun K hK => ?_)
           have gJ : bL.cell? ⟨aI, 0, none⟩ = some (.int .i64 0) := (bc aK.out 0).trans rfl; have fC := blk_frozen aK.out 0; have dH := aB.out; have dI := aC.out; have gK : bL.cell? ⟨aI, 1, none⟩ = some (.int .i64 0) := (bc aK.out 1).trans rfl; have fD := blk_frozen aK.out 1; have dJ := aB.out; have dK := aC.out
           refine skip_ (w1 := ?_) (by rfl) rfl ?_ ?_
           rotate_left
           ·go_simp
            rfl
           refine hK.out _ _ ⟨(cf (nb aE aM.out) (cf (nb aE aM.out) hHeld.1)), (cf (nb aD aM.out) (cf (nb aD aM.out) hHeld.2.1)), (cf (nb aG aM.out) (cf (nb aG aM.out) hHeld.2.2.1)), (cf (nb aF aM.out) (cf (nb aF aM.out) hHeld.2.2.2))⟩ (fun hHeld => ?_)
           clear hK K
           refine done_ (done_of HT_.out (by kernel_rfl)) ?_
           have fE := aB.out; have fF := aC.out; obtain ⟨dL, dM, dN, dO⟩ := C2 aJ.out; obtain ⟨dP, dQ, dR, dS⟩ := C2 aK.out
           try go_wp2
           go_ret
           exact ⟨Z57, Z4 aN.out aO.out⟩
          ·rw [if_neg bV] at H
           have b2 := df bV; clear bV; obtain rfl := Option.some.inj H
           try go_wp2
           replace HB := A_ (below_drew1 HB.out); have aV : 0 ≤ (aA : Int) := odt; have aW : aA < (l0.length : Int) := odt; obtain ⟨aP, aZ, aR, aS⟩ := at_T96 bW.out aA aV aW; have aD := aS; have aE := aR; cases aZ; replace aR := ZC HB.out aR; replace aS := ZC HB.out aS; replace aV := eq_true aV; replace aW := eq_true aW; have aX : 0 ≤ (aA : Int) := odt; have aY : aA < (l1.length : Int) := odt; obtain ⟨aQ, a0, aT, aU⟩ := at_T96 bX.out aA aX aY; have aF := aU; have aG := aT; cases a0; replace aT := ZC HB.out aT; replace aU := ZC HB.out aU; replace aX := eq_true aX; replace aY := eq_true aY
           refine start_ (n := 12) (S := fun w' => w'.cell? (aP.add ((aA).toNat * 2)) = some (.int .i64 ((rd_T96 l0 aA).f0)) ∧ w'.cell? ⟨(aP.add ((aA).toNat * 2)).block, (aP.add ((aA).toNat * 2)).off + 1, none⟩ = some (.int .i64 ((rd_T96 l0 aA).f1)) ∧ w'.cell? (aQ.add ((aA).toNat * 2)) = some (.int .i64 ((rd_T96 l1 aA).f0)) ∧ w'.cell? ⟨(aQ.add ((aA).toNat * 2)).block, (aQ.add ((aA).toNat * 2)).off + 1, none⟩ = some (.int .i64 ((rd_T96 l1 aA).f1))) (ds := []) M73 (by kernel_rfl) rfl rfl ⟨(ZC HB.out aE :), (ZC HB.out aD :), (ZC HB.out aG :), (ZC HB.out aF :)⟩ (fun hHeld => ?_); refine with_tabW impl_placeCmp.tab4 impl_placeCmp.bits4 (fun HT_ HW_ => ?_)
           generalize wr.drew = g5 at HB aR aS aT aU hHeld ⊢; refine pU 0 16 M74 ?_; refine pU 1 17 M75 ?_; refine pU 2 18 M76 ?_; refine pU 4 20 M83 ?_; refine pU 5 21 M84 ?_; refine pU 6 22 M85 ?_; refine tU 3 19 M77 ?_ (y := Z47); refine tU 7 23 M78 ?_ (y := Z47)
           refine join_ (σ := Nat × Nat) 2 M80 (fun s_ => [(6, .pointer (some ⟨s_.1, 0, none⟩)), (7, .pointer (some ⟨s_.2, 0, none⟩))]) (fun s_ w' => (w'.cell? (aP.add ((aA).toNat * 2)) = some (.int .i64 ((rd_T96 l0 aA).f0)) ∧ w'.cell? ⟨(aP.add ((aA).toNat * 2)).block, (aP.add ((aA).toNat * 2)).off + 1, none⟩ = some (.int .i64 ((rd_T96 l0 aA).f1)) ∧ w'.cell? (aQ.add ((aA).toNat * 2)) = some (.int .i64 ((rd_T96 l1 aA).f0)) ∧ w'.cell? ⟨(aQ.add ((aA).toNat * 2)).block, (aQ.add ((aA).toNat * 2)).off + 1, none⟩ = some (.int .i64 ((rd_T96 l1 aA).f1))) ∧ (w'.heap[s_.1]? = some (.cells #[.int .i64 0, .int .i64 0] 96 (0, 0))) ∧ (w'.heap[s_.2]? = some (.cells #[.int .i64 0, .int .i64 0] 96 (0, 0))) ∧ (w.heap.size ≤ s_.1) ∧ (w.heap.size ≤ s_.1) ∧ (s_.2 ≠ s_.1) ∧ (s_.1 ≠ s_.2) ∧ (w.heap.size ≤ s_.2) ∧ (w.heap.size ≤ s_.2) ∧ (Below w.heap.size w w')) ?_ ?_
           rotate_left
           ·intro hCont
            refine two_ (i := 8) (j := 9) (Ni := some 6) (Nj := some 7) M79 M86 rfl rfl rfl rfl (two_of HT_.out (by kernel_rfl)) (by decide) (by decide) (fun K hK => ?_) (fun K hK => ?_)
            ·skip
             refine box_step ?hg (N := 6) ?hd (cs := #[.int .i64 0, .int .i64 0]) (t := 96) ?hr ?_; (case hd => rfl); (case hg => rfl); (case hr => exact Z48)
             intro aH hg gM hbox hb
             have aJ := A_ hbox; have aL := A_ (gl hg (bz Z2)); have aN := A_ (gl hg (bz Z2)); replace HB := A_ (bst Z2 hb); clear hb hbox hg
             refine hK.out _ _ ⟨(ZC HB.out aE :), (ZC HB.out aD :), (ZC HB.out aG :), (ZC HB.out aF :)⟩ (fun hHeld => ?_)
             clear hK K
             refine norm_ (a' := ?_) ?_ ?_
             rotate_left; (·exact Z46)
             refine oU 9 (some 7) M80 (fun K hK => ?_)
             refine box_step ?hg (N := 7) ?hd (cs := #[.int .i64 0, .int .i64 0]) (t := 96) ?hr ?_; (case hd => rfl); (case hg => rfl); (case hr => exact Z48)
             intro aI hg gN hbox hb
             have aK := A_ hbox; have aM := A_ (gl hg (bz (Z3 aN.out))); have aO := A_ (gl hg (bz (Z3 aN.out))); replace HB := A_ (bst (Z3 aN.out) hb); have aB := A_ ((by rw [hg]; exact nl (blk_lt (Z0 aJ.out)) : aH ≠ aI)); have aC := A_ ((by rw [hg]; exact Nat.ne_of_gt (blk_lt (Z0 aJ.out)) : aI ≠ aH)); replace aJ := A_ (bb (Z0 aJ.out) hb); clear hb hbox hg
             refine hK.out _ _ ⟨(ZC HB.out aE :), (ZC HB.out aD :), (ZC HB.out aG :), (ZC HB.out aF :)⟩ (fun hHeld => ?_)
             clear hK K
             refine norm_ (a' := ?_) ?_ ?_
             rotate_left; (·exact Z45)
             exact norm_ Z55 (hCont (aH, aI) _ ⟨hHeld, (Z0 aJ.out), (Z0 aK.out), aL.out, aN.out, aC.out, aB.out, aM.out, aO.out, (Z4 aN.out aO.out)⟩)
            ·skip
             refine box_step ?hg (N := 7) ?hd (cs := #[.int .i64 0, .int .i64 0]) (t := 96) ?hr ?_; (case hd => rfl); (case hg => rfl); (case hr => exact Z48)
             intro aI hg gM hbox hb
             have aK := A_ hbox; have aM := A_ (gl hg (bz Z2)); have aO := A_ (gl hg (bz Z2)); replace HB := A_ (bst Z2 hb); clear hb hbox hg
             refine hK.out _ _ ⟨(ZC HB.out aE :), (ZC HB.out aD :), (ZC HB.out aG :), (ZC HB.out aF :)⟩ (fun hHeld => ?_)
             clear hK K
             refine norm_ (a' := ?_) ?_ ?_
             rotate_left; (·exact Z45)
             refine oU 8 (some 6) M80 (fun K hK => ?_)
             refine box_step ?hg (N := 6) ?hd (cs := #[.int .i64 0, .int .i64 0]) (t := 96) ?hr ?_; (case hd => rfl); (case hg => rfl); (case hr => exact Z48)
             intro aH hg gN hbox hb
             have aJ := A_ hbox; have aL := A_ (gl hg (bz (Z3 aO.out))); have aN := A_ (gl hg (bz (Z3 aO.out))); replace HB := A_ (bst (Z3 aO.out) hb); have aC := A_ ((by rw [hg]; exact nl (blk_lt (Z0 aK.out)) : aI ≠ aH)); have aB := A_ ((by rw [hg]; exact Nat.ne_of_gt (blk_lt (Z0 aK.out)) : aH ≠ aI)); replace aK := A_ (bb (Z0 aK.out) hb); clear hb hbox hg
             refine hK.out _ _ ⟨(ZC HB.out aE :), (ZC HB.out aD :), (ZC HB.out aG :), (ZC HB.out aF :)⟩ (fun hHeld => ?_)
             clear hK K
             refine norm_ (a' := ?_) ?_ ?_
             rotate_left; (·exact Z46)
             exact norm_ Z55 (hCont (aH, aI) _ ⟨hHeld, (Z0 aJ.out), (Z0 aK.out), aL.out, aN.out, aC.out, aB.out, aM.out, aO.out, (Z4 aO.out aN.out)⟩)
           rintro ⟨aH, aI⟩ bM ⟨hS_, a1, a2, a3, a4, a5, a6, a7, a8, a9⟩
           have bA : Aside0 (bM.heap[aH]? = some (.cells #[.int .i64 0, .int .i64 0] 96 (0, 0))) := ⟨a1⟩; have bB : Aside0 (bM.heap[aI]? = some (.cells #[.int .i64 0, .int .i64 0] 96 (0, 0))) := ⟨a2⟩; have bC : Aside0 (w.heap.size ≤ aH) := ⟨a3⟩; have bD : Aside0 (w.heap.size ≤ aH) := ⟨a4⟩; have bE : Aside0 (aI ≠ aH) := ⟨a5⟩; have bF : Aside0 (aH ≠ aI) := ⟨a6⟩; have bG : Aside0 (w.heap.size ≤ aI) := ⟨a7⟩; have bH : Aside0 (w.heap.size ≤ aI) := ⟨a8⟩; have bI : Aside0 (Below w.heap.size w bM) := ⟨a9⟩; clear HB; clear a1 a2 a3 a4 a5 a6 a7 a8 a9; have aJ := bA; have aK := bB; have aL := bC; have aN := bD; have aC := bE; have aB := bF; have aM := bG; have aO := bH; have HB := bI; clear bA bB bC bD bE bF bG bH bI; have hHeld : bM.cell? (aP.add ((aA).toNat * 2)) = some (.int .i64 ((rd_T96 l0 aA).f0)) ∧ bM.cell? ⟨(aP.add ((aA).toNat * 2)).block, (aP.add ((aA).toNat * 2)).off + 1, none⟩ = some (.int .i64 ((rd_T96 l0 aA).f1)) ∧ bM.cell? (aQ.add ((aA).toNat * 2)) = some (.int .i64 ((rd_T96 l1 aA).f0)) ∧ bM.cell? ⟨(aQ.add ((aA).toNat * 2)).block, (aQ.add ((aA).toNat * 2)).off + 1, none⟩ = some (.int .i64 ((rd_T96 l1 aA).f1)) := hS_
           refine norm_ (a' := ?_) ?_ ?_
           rotate_left; (·exact Z93)
           refine oU 10 none M81 (fun K hK => ?_)
           have gO : bM.cell? ⟨aH, 0, none⟩ = some (.int .i64 0) := (bc aJ.out 0).trans rfl; have fG := blk_frozen aJ.out 0; have dT := aC.out; have dU := aB.out; have gP : bM.cell? ⟨aH, 1, none⟩ = some (.int .i64 0) := (bc aJ.out 1).trans rfl; have fH := blk_frozen aJ.out 1; have dV := aC.out; have dW := aB.out
           refine skip_ (w1 := ?_) (by rfl) rfl ?_ ?_
           rotate_left
           ·go_simp
            rfl
           refine hK.out _ _ ⟨(cf (nb aE aL.out) (cf (nb aE aL.out) hHeld.1)), (cf (nb aD aL.out) (cf (nb aD aL.out) hHeld.2.1)), (cf (nb aG aL.out) (cf (nb aG aL.out) hHeld.2.2.1)), (cf (nb aF aL.out) (cf (nb aF aL.out) hHeld.2.2.2))⟩ (fun hHeld => ?_)
           clear hK K
           refine oU 11 none M82 (fun K hK => ?_)
           have gQ : bM.cell? ⟨aI, 0, none⟩ = some (.int .i64 0) := (bc aK.out 0).trans rfl; have fI := blk_frozen aK.out 0; have dX := aB.out; have dY := aC.out; have gR : bM.cell? ⟨aI, 1, none⟩ = some (.int .i64 0) := (bc aK.out 1).trans rfl; have fJ := blk_frozen aK.out 1; have dZ := aB.out; have d0 := aC.out
           refine skip_ (w1 := ?_) (by rfl) rfl ?_ ?_
           rotate_left
           ·go_simp
            rfl
           refine hK.out _ _ ⟨(cf (nb aE aM.out) (cf (nb aE aM.out) hHeld.1)), (cf (nb aD aM.out) (cf (nb aD aM.out) hHeld.2.1)), (cf (nb aG aM.out) (cf (nb aG aM.out) hHeld.2.2.1)), (cf (nb aF aM.out) (cf (nb aF aM.out) hHeld.2.2.2))⟩ (fun hHeld => ?_)
           clear hK K
           refine done_ (done_of HT_.out (by kernel_rfl)) ?_
           have fK := aB.out; have fL := aC.out; obtain ⟨d1, d2, d3, d4⟩ := C2 aJ.out; obtain ⟨d5, d6, d7, d8⟩ := C2 aK.out
           try go_wp2
           go_ret
           exact ⟨Z57, Z4 aN.out aO.out⟩
         ·rw [if_neg bR] at H
          have bO : (((rd_T96 l0 aA).f0) == ((rd_T96 l1 aA).f0)) = false := beq_eq_false_iff_ne.mpr bR; have b1 : (((rd_T96 l0 aA).f0) != ((rd_T96 l1 aA).f0)) = true := bne_iff_ne.mpr bR; obtain rfl := Option.some.inj H
          try go_wp2
          replace HB := A_ (below_drew1 HB.out); have aV : 0 ≤ (aA : Int) := odt; have aW : aA < (l0.length : Int) := odt; obtain ⟨aP, aZ, aR, aS⟩ := at_T96 bW.out aA aV aW; have aD := aS; have aE := aR; cases aZ; replace aR := ZC HB.out aR; replace aS := ZC HB.out aS; replace aV := eq_true aV; replace aW := eq_true aW; have aX : 0 ≤ (aA : Int) := odt; have aY : aA < (l1.length : Int) := odt; obtain ⟨aQ, a0, aT, aU⟩ := at_T96 bX.out aA aX aY; have aF := aU; have aG := aT; cases a0; replace aT := ZC HB.out aT; replace aU := ZC HB.out aU; replace aX := eq_true aX; replace aY := eq_true aY
          refine start_ (n := 12) (S := fun w' => w'.cell? (aP.add ((aA).toNat * 2)) = some (.int .i64 ((rd_T96 l0 aA).f0)) ∧ w'.cell? ⟨(aP.add ((aA).toNat * 2)).block, (aP.add ((aA).toNat * 2)).off + 1, none⟩ = some (.int .i64 ((rd_T96 l0 aA).f1)) ∧ w'.cell? (aQ.add ((aA).toNat * 2)) = some (.int .i64 ((rd_T96 l1 aA).f0)) ∧ w'.cell? ⟨(aQ.add ((aA).toNat * 2)).block, (aQ.add ((aA).toNat * 2)).off + 1, none⟩ = some (.int .i64 ((rd_T96 l1 aA).f1))) (ds := []) M73 (by kernel_rfl) rfl rfl ⟨(ZC HB.out aE :), (ZC HB.out aD :), (ZC HB.out aG :), (ZC HB.out aF :)⟩ (fun hHeld => ?_); refine with_tabW impl_placeCmp.tab4 impl_placeCmp.bits4 (fun HT_ HW_ => ?_)
          generalize wr.drew = g6 at HB aR aS aT aU hHeld ⊢; refine pU 0 16 M74 ?_; refine pU 1 17 M75 ?_; refine pU 2 18 M76 ?_; refine pU 4 20 M83 ?_; refine pU 5 21 M84 ?_; refine pU 6 22 M85 ?_; refine tU 3 19 M77 ?_ (y := Z47); refine tU 7 23 M78 ?_ (y := Z47)
          refine join_ (σ := Nat × Nat) 2 M80 (fun s_ => [(6, .pointer (some ⟨s_.1, 0, none⟩)), (7, .pointer (some ⟨s_.2, 0, none⟩))]) (fun s_ w' => (w'.cell? (aP.add ((aA).toNat * 2)) = some (.int .i64 ((rd_T96 l0 aA).f0)) ∧ w'.cell? ⟨(aP.add ((aA).toNat * 2)).block, (aP.add ((aA).toNat * 2)).off + 1, none⟩ = some (.int .i64 ((rd_T96 l0 aA).f1)) ∧ w'.cell? (aQ.add ((aA).toNat * 2)) = some (.int .i64 ((rd_T96 l1 aA).f0)) ∧ w'.cell? ⟨(aQ.add ((aA).toNat * 2)).block, (aQ.add ((aA).toNat * 2)).off + 1, none⟩ = some (.int .i64 ((rd_T96 l1 aA).f1))) ∧ (w'.heap[s_.1]? = some (.cells #[.int .i64 0, .int .i64 0] 96 (0, 0))) ∧ (w'.heap[s_.2]? = some (.cells #[.int .i64 0, .int .i64 0] 96 (0, 0))) ∧ (w.heap.size ≤ s_.1) ∧ (w.heap.size ≤ s_.1) ∧ (s_.2 ≠ s_.1) ∧ (s_.1 ≠ s_.2) ∧ (w.heap.size ≤ s_.2) ∧ (w.heap.size ≤ s_.2) ∧ (Below w.heap.size w w')) ?_ ?_
          rotate_left
          ·intro hCont
           refine two_ (i := 8) (j := 9) (Ni := some 6) (Nj := some 7) M79 M86 rfl rfl rfl rfl (two_of HT_.out (by kernel_rfl)) (by decide) (by decide) (fun K hK => ?_) (fun K hK => ?_)
           ·skip
            refine box_step ?hg (N := 6) ?hd (cs := #[.int .i64 0, .int .i64 0]) (t := 96) ?hr ?_; (case hd => rfl); (case hg => rfl); (case hr => exact Z48)
            intro aH hg gS hbox hb
            have aJ := A_ hbox; have aL := A_ (gl hg (bz Z2)); have aN := A_ (gl hg (bz Z2)); replace HB := A_ (bst Z2 hb); clear hb hbox hg
            refine hK.out _ _ ⟨(ZC HB.out aE :), (ZC HB.out aD :), (ZC HB.out aG :), (ZC HB.out aF :)⟩ (fun hHeld => ?_)
            clear hK K
            refine norm_ (a' := ?_) ?_ ?_
            rotate_left; (·exact Z46)
            refine oU 9 (some 7) M80 (fun K hK => ?_)
            refine box_step ?hg (N := 7) ?hd (cs := #[.int .i64 0, .int .i64 0]) (t := 96) ?hr ?_; (case hd => rfl); (case hg => rfl); (case hr => exact Z48)
            intro aI hg gT hbox hb
            have aK := A_ hbox; have aM := A_ (gl hg (bz (Z3 aN.out))); have aO := A_ (gl hg (bz (Z3 aN.out))); replace HB := A_ (bst (Z3 aN.out) hb); have aB := A_ ((by rw [hg]; exact nl (blk_lt (Z0 aJ.out)) : aH ≠ aI)); have aC := A_ ((by rw [hg]; exact Nat.ne_of_gt (blk_lt (Z0 aJ.out)) : aI ≠ aH)); replace aJ := A_ (bb (Z0 aJ.out) hb); clear hb hbox hg
            refine hK.out _ _ ⟨(ZC HB.out aE :), (ZC HB.out aD :), (ZC HB.out aG :), (ZC HB.out aF :)⟩ (fun hHeld => ?_)
            clear hK K
            refine norm_ (a' := ?_) ?_ ?_
            rotate_left; (·exact Z45)
            exact norm_ Z55 (hCont (aH, aI) _ ⟨hHeld, (Z0 aJ.out), (Z0 aK.out), aL.out, aN.out, aC.out, aB.out, aM.out, aO.out, (Z4 aN.out aO.out)⟩)
           ·skip
            refine box_step ?hg (N := 7) ?hd (cs := #[.int .i64 0, .int .i64 0]) (t := 96) ?hr ?_; (case hd => rfl); (case hg => rfl); (case hr => exact Z48)
            intro aI hg gS hbox hb
            have aK := A_ hbox; have aM := A_ (gl hg (bz Z2)); have aO := A_ (gl hg (bz Z2)); replace HB := A_ (bst Z2 hb); clear hb hbox hg
            refine hK.out _ _ ⟨(ZC HB.out aE :), (ZC HB.out aD :), (ZC HB.out aG :), (ZC HB.out aF :)⟩ (fun hHeld => ?_)
            clear hK K
            refine norm_ (a' := ?_) ?_ ?_
            rotate_left; (·exact Z45)
            refine oU 8 (some 6) M80 (fun K hK => ?_)
            refine box_step ?hg (N := 6) ?hd (cs := #[.int .i64 0, .int .i64 0]) (t := 96) ?hr ?_; (case hd => rfl); (case hg => rfl); (case hr => exact Z48)
            intro aH hg gT hbox hb
            have aJ := A_ hbox; have aL := A_ (gl hg (bz (Z3 aO.out))); have aN := A_ (gl hg (bz (Z3 aO.out))); replace HB := A_ (bst (Z3 aO.out) hb); have aC := A_ ((by rw [hg]; exact nl (blk_lt (Z0 aK.out)) : aI ≠ aH)); have aB := A_ ((by rw [hg]; exact Nat.ne_of_gt (blk_lt (Z0 aK.out)) : aH ≠ aI)); replace aK := A_ (bb (Z0 aK.out) hb); clear hb hbox hg
            refine hK.out _ _ ⟨(ZC HB.out aE :), (ZC HB.out aD :), (ZC HB.out aG :), (ZC HB.out aF :)⟩ (fun hHeld => ?_)
            clear hK K
            refine norm_ (a' := ?_) ?_ ?_
            rotate_left; (·exact Z46)
            exact norm_ Z55 (hCont (aH, aI) _ ⟨hHeld, (Z0 aJ.out), (Z0 aK.out), aL.out, aN.out, aC.out, aB.out, aM.out, aO.out, (Z4 aO.out aN.out)⟩)
          rintro ⟨aH, aI⟩ bN ⟨hS_, a1, a2, a3, a4, a5, a6, a7, a8, a9⟩
          have bA : Aside0 (bN.heap[aH]? = some (.cells #[.int .i64 0, .int .i64 0] 96 (0, 0))) := ⟨a1⟩; have bB : Aside0 (bN.heap[aI]? = some (.cells #[.int .i64 0, .int .i64 0] 96 (0, 0))) := ⟨a2⟩; have bC : Aside0 (w.heap.size ≤ aH) := ⟨a3⟩; have bD : Aside0 (w.heap.size ≤ aH) := ⟨a4⟩; have bE : Aside0 (aI ≠ aH) := ⟨a5⟩; have bF : Aside0 (aH ≠ aI) := ⟨a6⟩; have bG : Aside0 (w.heap.size ≤ aI) := ⟨a7⟩; have bH : Aside0 (w.heap.size ≤ aI) := ⟨a8⟩; have bI : Aside0 (Below w.heap.size w bN) := ⟨a9⟩; clear HB; clear a1 a2 a3 a4 a5 a6 a7 a8 a9; have aJ := bA; have aK := bB; have aL := bC; have aN := bD; have aC := bE; have aB := bF; have aM := bG; have aO := bH; have HB := bI; clear bA bB bC bD bE bF bG bH bI; have hHeld : bN.cell? (aP.add ((aA).toNat * 2)) = some (.int .i64 ((rd_T96 l0 aA).f0)) ∧ bN.cell? ⟨(aP.add ((aA).toNat * 2)).block, (aP.add ((aA).toNat * 2)).off + 1, none⟩ = some (.int .i64 ((rd_T96 l0 aA).f1)) ∧ bN.cell? (aQ.add ((aA).toNat * 2)) = some (.int .i64 ((rd_T96 l1 aA).f0)) ∧ bN.cell? ⟨(aQ.add ((aA).toNat * 2)).block, (aQ.add ((aA).toNat * 2)).off + 1, none⟩ = some (.int .i64 ((rd_T96 l1 aA).f1)) := hS_
          refine norm_ (a' := ?_) ?_ ?_
          rotate_left; (·exact Z93)
          refine oU 10 none M81 (fun K hK => ?_)
          have gU : bN.cell? ⟨aH, 0, none⟩ = some (.int .i64 0) := (bc aJ.out 0).trans rfl; have fM := blk_frozen aJ.out 0; have d9 := aC.out; have eA := aB.out; have gV : bN.cell? ⟨aH, 1, none⟩ = some (.int .i64 0) := (bc aJ.out 1).trans rfl; have fN := blk_frozen aJ.out 1; have eB := aC.out; have eC := aB.out
          refine skip_ (w1 := ?_) (by rfl) rfl ?_ ?_
          rotate_left
          ·go_simp
           rfl
          refine hK.out _ _ ⟨(cf (nb aE aL.out) (cf (nb aE aL.out) hHeld.1)), (cf (nb aD aL.out) (cf (nb aD aL.out) hHeld.2.1)), (cf (nb aG aL.out) (cf (nb aG aL.out) hHeld.2.2.1)), (cf (nb aF aL.out) (cf (nb aF aL.out) hHeld.2.2.2))⟩ (fun hHeld => ?_)
          clear hK K
          refine oU 11 none M82 (fun K hK => ?_)
          have gW : bN.cell? ⟨aI, 0, none⟩ = some (.int .i64 0) := (bc aK.out 0).trans rfl; have fO := blk_frozen aK.out 0; have eD := aB.out; have eE := aC.out; have gX : bN.cell? ⟨aI, 1, none⟩ = some (.int .i64 0) := (bc aK.out 1).trans rfl; have fP := blk_frozen aK.out 1; have eF := aB.out; have eG := aC.out
          refine skip_ (w1 := ?_) (by rfl) rfl ?_ ?_
          rotate_left
          ·go_simp
           rfl
          refine hK.out _ _ ⟨(cf (nb aE aM.out) (cf (nb aE aM.out) hHeld.1)), (cf (nb aD aM.out) (cf (nb aD aM.out) hHeld.2.1)), (cf (nb aG aM.out) (cf (nb aG aM.out) hHeld.2.2.1)), (cf (nb aF aM.out) (cf (nb aF aM.out) hHeld.2.2.2))⟩ (fun hHeld => ?_)
          clear hK K
          refine done_ (done_of HT_.out (by kernel_rfl)) ?_
          have fQ := aB.out; have fR := aC.out; obtain ⟨eH, eI, eJ, eK⟩ := C2 aJ.out; obtain ⟨eL, eM, eN, eO⟩ := C2 aK.out
          try go_wp2
          go_ret
          exact ⟨Z57, Z4 aN.out aO.out⟩
      ·rw [if_neg c7] at H
       exact absurd H (by simp)
     ·rw [if_neg c6] at H
      exact absurd H (by simp)
    ·rw [if_neg c5] at H
     exact absurd H (by simp)
   ·rw [if_neg c4] at H
    have eP := df c4; clear c4
    by_cases bP : (l0.length : Int) < (l1.length : Int)
    ·rw [if_pos bP] at H
     have b3 := dt bP; have b4 : decide (l0.length < l1.length) = true := dt (Int.ofNat_lt.mp bP); clear bP; obtain rfl := Option.some.inj H
     go_wp2
     go_ret
     exact ⟨Z57, Z2⟩
    ·rw [if_neg bP] at H
     have b3 := df bP; have b4 : decide (l0.length < l1.length) = false := df (fun h => bP (Int.ofNat_lt.mpr h)); clear bP
     by_cases bQ : (l0.length : Int) > (l1.length : Int)
     ·rw [if_pos bQ] at H
      have b5 : decide ((l1.length : Int) < (l0.length : Int)) = true := dt bQ; have b6 : decide (l1.length < l0.length) = true := dt (Int.ofNat_lt.mp bQ); clear bQ; obtain rfl := Option.some.inj H
      go_wp2
      go_ret
      exact ⟨Z57, Z2⟩
     ·rw [if_neg bQ] at H
      have b5 : decide ((l1.length : Int) < (l0.length : Int)) = false := df bQ; have b6 : decide (l1.length < l0.length) = false := df (fun h => bQ (Int.ofNat_lt.mpr h)); clear bQ; obtain rfl := Option.some.inj H
      go_wp2
      go_ret
      exact ⟨Z57, Z2⟩
end Go.Proofs.Ytgbbcebjgpoioaa.PFnHistRedo
