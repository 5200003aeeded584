/- Walks (lines of the print; no condition). -/
import Derived.Test.YtgbbcebjgpoioaaZFnExactHistRedoQFnExactHistRedox1
namespace Go.Proofs.Ytgbbcebjgpoioaa.PFnExactHistRedo
open Go.RowKit Go.Proofs.YtgbbcebjgpoioaaW.PrintWords Go.Proofs.YtgbbcebjgpoioaaW.PrintLast Go.Proofs.YtgbbcebjgpoioaaW.PrintMore
attribute [local go_sem] max2_int min2_int max_two min_two max_three min_three max_four min_four
set_option linter.unusedVariables false
set_option linter.unusedSimpArgs false
attribute [local go_sem high] eqA96
def impl_placeCmp.l0 : Nat → List (S96) → List (S96) → Int → Int → Option (Int)
 | 0, _, _, _, _ => none
 | k + 1, x0, x1, aB, aA => if aA < aB then (if 0 ≤ aA then (if aA < (x0.length : Int) then (if aA < (x1.length : Int) then (if (((rd_T96 x0 aA).f0) == ((rd_T96 x1 aA).f0) && (((rd_T96 x0 aA).f1) == ((rd_T96 x1 aA).f1))) = true then (impl_placeCmp.l0 k x0 x1 aB (wrap64 (aA + 1))) else (if ((rd_T96 x0 aA).f0) < ((rd_T96 x1 aA).f0) then (some (-1)) else (if ((rd_T96 x0 aA).f0) = ((rd_T96 x1 aA).f0) then (if ((rd_T96 x0 aA).f1) < ((rd_T96 x1 aA).f1) then (some (-1)) else (some 1)) else (some 1)))) else (none)) else (none)) else (none)) else (if (x0.length : Int) < (x1.length : Int) then (some (-1)) else (if (x0.length : Int) > (x1.length : Int) then (some 1) else (some 0)))
def impl_placeCmp.f (k : Nat) (l0 : List (S96)) (l1 : List (S96)) : Option (Int) := impl_placeCmp.l0 k l0 l1 (mn (l0.length : Int) (l1.length : Int)) 0
def impl_placeCmp.T4 : Bool × List (List Nat × List Nat) := (true, [([], []), ([], []), ([0, 1], [0, 1]), ([2], [2]), ([], []), ([], []), ([4, 5], [4, 5]), ([6], [6]), ([], []), ([], []), ([8, 3, 0, 1, 2, 3, 8, 9], [3, 8]), ([9, 7, 10, 0, 1, 2, 3, 4, 5, 6, 7, 8, 9, 10], [7, 9])])
def impl_placeCmp.B4 : List Nat := [0, 0, 3, 7, 0, 0, 48, 112, 0, 0, 783, 2047]
theorem impl_placeCmp.tab4 : rtab .any (opsOf Try.f63 4) = impl_placeCmp.T4 := by kernel_rfl
theorem impl_placeCmp.bits4 : waitsOk impl_placeCmp.T4.2 impl_placeCmp.B4 = true := by kernel_rfl
set_option maxHeartbeats 8000000 in
set_option maxRecDepth 100000 in
theorem impl_placeCmp.calls (k : Nat) (A0 : Option Addr) (c0 : Nat) (l0 : List (S96)) (A1 : Option Addr) (c1 : Nat) (l1 : List (S96)) (r : Int) (w : World) (eO : Kd.C k96 w A0 l0.length l0) (hc0 : l0.length ≤ c0) (hr1 : Kd.C k96 w A1 l1.length l1) (eP : l1.length ≤ c1) (h : impl_placeCmp.f k l0 l1 = some r) :
  Calls Try.prog 63 #[.slice A0 l0.length c0, .slice A1 l1.length c1] w fun e w' => e = .returned (.int .i64 r) ∧ Below w.heap.size w w' := by
 have fO := Try.underlying96; have bR := A_ eO; have gT := A_ hc0; clear eO hc0; have bT := A_ hr1; have gU := A_ eP; clear hr1 eP; have HB := A_ (Below.refl w.heap.size w); have H := h; unfold impl_placeCmp.f at H; clear h; obtain ⟨bO, hji3⟩ : ∃ j_ : Int, (mn (l0.length : Int) (l1.length : Int)) = j_ := ⟨_, rfl⟩
 first | rw [hji3] at H | simp only [hji3] at H
 (try (have eQ : 0 ≤ bO := by (rw [← hji3]; unfold mn; (repeat' split) <;> omega))); (try (have eR : 0 ≤ bO := by omega)); have bU : (if (l1.length : Int) < (l0.length : Int) then (l1.length : Int) else (l0.length : Int)) = bO := hji3
 have eS : (if l1.length < l0.length then (l1.length : Int) else (l0.length : Int)) = bO := by rw [← bU]; simp only [Int.ofNat_lt]
 have H' := A_ H; clear H
 go_enter Try.func63, Try.ntmps63
 go_wp2
 go_loopg [13] k (fun kq fP w' => ∃ (aA : Int), fP = .int .i64 aA ∧ Aside0 (impl_placeCmp.l0 kq l0 l1 bO aA = some r) ∧ Aside0 (kq ≤ k) ∧ Aside0 (Below w.heap.size w w'))
 case atStart => exact ⟨(0), Z17, H', ⟨Nat.le_refl _⟩, ⟨Z1⟩⟩
 case round =>
  clear H'; try clear c1
  obtain ⟨aA, rfl, HA, eT, HB⟩ := hrel
  cases gk with
  | zero => exact absurd HA.out (by simp [impl_placeCmp.l0])
  | succ k1 =>
   have H := HA.out; clear HA; simp only [impl_placeCmp.l0] at H
   by_cases c4 : aA < bO
   ·rw [if_pos c4] at H
    have eL := dt c4; clear c4
    by_cases c5 : 0 ≤ aA
    ·rw [if_pos c5] at H
     have fQ := dt c5; clear c5
     by_cases c6 : aA < (l0.length : Int)
     ·rw [if_pos c6] at H
      have fR := dt c6; clear c6
      by_cases c7 : aA < (l1.length : Int)
      ·rw [if_pos c7] at H
       have fS := dt c7; clear c7
       by_cases c8 : (((rd_T96 l0 aA).f0) == ((rd_T96 l1 aA).f0) && (((rd_T96 l0 aA).f1) == ((rd_T96 l1 aA).f1))) = true
       ·rw [if_pos c8] at H
        have bV : (((rd_T96 l0 aA).f0) == ((rd_T96 l1 aA).f0) && (((rd_T96 l0 aA).f1) == ((rd_T96 l1 aA).f1))) = true := c8; (try (have eM : decide (((rd_T96 l0 aA).f0) = ((rd_T96 l1 aA).f0) && (((rd_T96 l0 aA).f1) == ((rd_T96 l1 aA).f1))) = true := by simpa using c8)); (try (have eN : (((rd_T96 l0 aA).f0) == ((rd_T96 l1 aA).f0) && (((rd_T96 l0 aA).f1) == ((rd_T96 l1 aA).f1))) = true := by simpa using c8)); clear c8; have H' := A_ H; clear H
        try go_wp2
        replace HB := A_ (below_drew1 HB.out); have aV : 0 ≤ (aA : Int) := odt; have aW : aA < (l0.length : Int) := odt; obtain ⟨aP, aZ, aR, aS⟩ := at_T96 bR.out aA aV aW; have aD := aS; have aE := aR; cases aZ; replace aR := ZC HB.out aR; replace aS := ZC HB.out aS; replace aV := eq_true aV; replace aW := eq_true aW; have aX : 0 ≤ (aA : Int) := odt; have aY : aA < (l1.length : Int) := odt; obtain ⟨aQ, a0, aT, aU⟩ := at_T96 bT.out aA aX aY; have aF := aU; have aG := aT; cases a0; replace aT := ZC HB.out aT; replace aU := ZC HB.out aU; replace aX := eq_true aX; replace aY := eq_true aY
        refine start_ (n := 12) (S := fun w' => w'.cell? (aP.add ((aA).toNat * 2)) = some (.int .i64 ((rd_T96 l0 aA).f0)) ∧ w'.cell? ⟨(aP.add ((aA).toNat * 2)).block, (aP.add ((aA).toNat * 2)).off + 1, none⟩ = some (.int .i64 ((rd_T96 l0 aA).f1)) ∧ w'.cell? (aQ.add ((aA).toNat * 2)) = some (.int .i64 ((rd_T96 l1 aA).f0)) ∧ w'.cell? ⟨(aQ.add ((aA).toNat * 2)).block, (aQ.add ((aA).toNat * 2)).off + 1, none⟩ = some (.int .i64 ((rd_T96 l1 aA).f1))) (ds := []) M11 (by kernel_rfl) rfl rfl ⟨(ZC HB.out aE :), (ZC HB.out aD :), (ZC HB.out aG :), (ZC HB.out aF :)⟩ (fun hHeld => ?_); refine with_tabW impl_placeCmp.tab4 impl_placeCmp.bits4 (fun HT_ HW_ => ?_)
        generalize wr.drew = w9 at HB aR aS aT aU hHeld ⊢; refine pU 0 16 M12 ?_; refine pU 1 17 M13 ?_; refine pU 2 18 M14 ?_; refine pU 4 20 M15 ?_; refine pU 5 21 M16 ?_; refine pU 6 22 M17 ?_; refine tU 3 19 M18 ?_ (y := Z30); refine tU 7 23 M19 ?_ (y := Z30)
        refine join_ (σ := Nat × Nat) 2 M20 (fun s_ => [(6, .pointer (some ⟨s_.1, 0, none⟩)), (7, .pointer (some ⟨s_.2, 0, none⟩))]) (fun s_ w' => (w'.cell? (aP.add ((aA).toNat * 2)) = some (.int .i64 ((rd_T96 l0 aA).f0)) ∧ w'.cell? ⟨(aP.add ((aA).toNat * 2)).block, (aP.add ((aA).toNat * 2)).off + 1, none⟩ = some (.int .i64 ((rd_T96 l0 aA).f1)) ∧ w'.cell? (aQ.add ((aA).toNat * 2)) = some (.int .i64 ((rd_T96 l1 aA).f0)) ∧ w'.cell? ⟨(aQ.add ((aA).toNat * 2)).block, (aQ.add ((aA).toNat * 2)).off + 1, none⟩ = some (.int .i64 ((rd_T96 l1 aA).f1))) ∧ (w'.heap[s_.1]? = some (.cells #[.int .i64 0, .int .i64 0] 96 (0, 0))) ∧ (w'.heap[s_.2]? = some (.cells #[.int .i64 0, .int .i64 0] 96 (0, 0))) ∧ (w.heap.size ≤ s_.1) ∧ (w.heap.size ≤ s_.1) ∧ (s_.2 ≠ s_.1) ∧ (s_.1 ≠ s_.2) ∧ (w.heap.size ≤ s_.2) ∧ (w.heap.size ≤ s_.2) ∧ (Below w.heap.size w w')) ?_ ?_
        rotate_left
        ·intro hCont
         refine two_ (i := 8) (j := 9) (Ni := some 6) (Nj := some 7) M21 M22 rfl rfl rfl rfl (two_of HT_.out (by kernel_rfl)) (by decide) (by decide) (fun K hK => ?_) (fun K hK => ?_)
         ·skip
          refine box_step ?hg (N := 6) ?hd (cs := #[.int .i64 0, .int .i64 0]) (t := 96) ?hr ?_; (case hd => rfl); (case hg => rfl); (case hr => exact Z36)
          intro aH hg fT hbox hb
          have aJ := A_ hbox; have aL := A_ (gl hg (bz Z1)); have aN := A_ (gl hg (bz Z1)); replace HB := A_ (bst Z1 hb); clear hb hbox hg
          refine hK.out _ _ ⟨(ZC HB.out aE :), (ZC HB.out aD :), (ZC HB.out aG :), (ZC HB.out aF :)⟩ (fun hHeld => ?_)
          clear hK K
          refine norm_ (a' := ?_) ?_ ?_
          rotate_left; (·exact Z29)
          refine oU 9 (some 7) M20 (fun K hK => ?_)
          refine box_step ?hg (N := 7) ?hd (cs := #[.int .i64 0, .int .i64 0]) (t := 96) ?hr ?_; (case hd => rfl); (case hg => rfl); (case hr => exact Z36)
          intro aI hg fU hbox hb
          have aK := A_ hbox; have aM := A_ (gl hg (bz (Z3 aN.out))); have aO := A_ (gl hg (bz (Z3 aN.out))); replace HB := A_ (bst (Z3 aN.out) hb); have aB := A_ ((by rw [hg]; exact nl (blk_lt (Z2 aJ.out)) : aH ≠ aI)); have aC := A_ ((by rw [hg]; exact Nat.ne_of_gt (blk_lt (Z2 aJ.out)) : aI ≠ aH)); replace aJ := A_ (bb (Z2 aJ.out) hb); clear hb hbox hg
          refine hK.out _ _ ⟨(ZC HB.out aE :), (ZC HB.out aD :), (ZC HB.out aG :), (ZC HB.out aF :)⟩ (fun hHeld => ?_)
          clear hK K
          refine norm_ (a' := ?_) ?_ ?_
          rotate_left; (·exact Z28)
          exact norm_ Z35 (hCont (aH, aI) _ ⟨hHeld, (Z2 aJ.out), (Z2 aK.out), aL.out, aN.out, aC.out, aB.out, aM.out, aO.out, (Z5 aN.out aO.out)⟩)
         ·skip
          refine box_step ?hg (N := 7) ?hd (cs := #[.int .i64 0, .int .i64 0]) (t := 96) ?hr ?_; (case hd => rfl); (case hg => rfl); (case hr => exact Z36)
          intro aI hg fT hbox hb
          have aK := A_ hbox; have aM := A_ (gl hg (bz Z1)); have aO := A_ (gl hg (bz Z1)); replace HB := A_ (bst Z1 hb); clear hb hbox hg
          refine hK.out _ _ ⟨(ZC HB.out aE :), (ZC HB.out aD :), (ZC HB.out aG :), (ZC HB.out aF :)⟩ (fun hHeld => ?_)
          clear hK K
          refine norm_ (a' := ?_) ?_ ?_
          rotate_left; (·exact Z28)
          refine oU 8 (some 6) M20 (fun K hK => ?_)
          refine box_step ?hg (N := 6) ?hd (cs := #[.int .i64 0, .int .i64 0]) (t := 96) ?hr ?_; (case hd => rfl); (case hg => rfl); (case hr => exact Z36)
          intro aH hg fU hbox hb
          have aJ := A_ hbox; have aL := A_ (gl hg (bz (Z3 aO.out))); have aN := A_ (gl hg (bz (Z3 aO.out))); replace HB := A_ (bst (Z3 aO.out) hb); have aC := A_ ((by rw [hg]; exact nl (blk_lt (Z2 aK.out)) : aI ≠ aH)); have aB := A_ ((by rw [hg]; exact Nat.ne_of_gt (blk_lt (Z2 aK.out)) : aH ≠ aI)); replace aK := A_ (bb (Z2 aK.out) hb); clear hb hbox hg
          refine hK.out _ _ ⟨(ZC HB.out aE :), (ZC HB.out aD :), (ZC HB.out aG :), (ZC HB.out aF :)⟩ (fun hHeld => ?_)
          clear hK K
          refine norm_ (a' := ?_) ?_ ?_
          rotate_left; (·exact Z29)
          exact norm_ Z35 (hCont (aH, aI) _ ⟨hHeld, (Z2 aJ.out), (Z2 aK.out), aL.out, aN.out, aC.out, aB.out, aM.out, aO.out, (Z5 aO.out aN.out)⟩)
        rintro ⟨aH, aI⟩ bF ⟨hS_, a1, h1_, h2_, h3_, h4_, a2, a3, a4, a5⟩
        have a6 : Aside0 (bF.heap[aH]? = some (.cells #[.int .i64 0, .int .i64 0] 96 (0, 0))) := ⟨a1⟩; have a7 : Aside0 (bF.heap[aI]? = some (.cells #[.int .i64 0, .int .i64 0] 96 (0, 0))) := ⟨h1_⟩; have a8 : Aside0 (w.heap.size ≤ aH) := ⟨h2_⟩; have a9 : Aside0 (w.heap.size ≤ aH) := ⟨h3_⟩; have bA : Aside0 (aI ≠ aH) := ⟨h4_⟩; have bB : Aside0 (aH ≠ aI) := ⟨a2⟩; have bC : Aside0 (w.heap.size ≤ aI) := ⟨a3⟩; have bD : Aside0 (w.heap.size ≤ aI) := ⟨a4⟩; have bE : Aside0 (Below w.heap.size w bF) := ⟨a5⟩; clear HB; clear a1 h1_ h2_ h3_ h4_ a2 a3 a4 a5; have aJ := a6; have aK := a7; have aL := a8; have aN := a9; have aC := bA; have aB := bB; have aM := bC; have aO := bD; have HB := bE; clear a6 a7 a8 a9 bA bB bC bD bE; have hHeld : bF.cell? (aP.add ((aA).toNat * 2)) = some (.int .i64 ((rd_T96 l0 aA).f0)) ∧ bF.cell? ⟨(aP.add ((aA).toNat * 2)).block, (aP.add ((aA).toNat * 2)).off + 1, none⟩ = some (.int .i64 ((rd_T96 l0 aA).f1)) ∧ bF.cell? (aQ.add ((aA).toNat * 2)) = some (.int .i64 ((rd_T96 l1 aA).f0)) ∧ bF.cell? ⟨(aQ.add ((aA).toNat * 2)).block, (aQ.add ((aA).toNat * 2)).off + 1, none⟩ = some (.int .i64 ((rd_T96 l1 aA).f1)) := hS_
        refine norm_ (a' := ?_) ?_ ?_
        rotate_left; (·exact Z48)
        refine oU 10 none M23 (fun K hK => ?_)
        have fV : bF.cell? ⟨aH, 0, none⟩ = some (.int .i64 0) := (bc aJ.out 0).trans rfl; have eU := blk_frozen aJ.out 0; have b3 := aC.out; have b4 := aB.out; have fW : bF.cell? ⟨aH, 1, none⟩ = some (.int .i64 0) := (bc aJ.out 1).trans rfl; have eV := blk_frozen aJ.out 1; have b5 := aC.out; have b6 := aB.out
        refine skip_ (w1 := ?_) (by rfl) rfl ?_ ?_
        rotate_left
        ·go_simp
         rfl
        refine hK.out _ _ ⟨(cf (nb aE aL.out) (cf (nb aE aL.out) hHeld.1)), (cf (nb aD aL.out) (cf (nb aD aL.out) hHeld.2.1)), (cf (nb aG aL.out) (cf (nb aG aL.out) hHeld.2.2.1)), (cf (nb aF aL.out) (cf (nb aF aL.out) hHeld.2.2.2))⟩ (fun hHeld => ?_)
        clear hK K
        refine oU 11 none M24 (fun K hK => ?_)
        have fX : bF.cell? ⟨aI, 0, none⟩ = some (.int .i64 0) := (bc aK.out 0).trans rfl; have eW := blk_frozen aK.out 0; have b7 := aB.out; have b8 := aC.out; have fY : bF.cell? ⟨aI, 1, none⟩ = some (.int .i64 0) := (bc aK.out 1).trans rfl; have eX := blk_frozen aK.out 1; have b9 := aB.out; have cA := aC.out
        refine skip_ (w1 := ?_) (by rfl) rfl ?_ ?_
        rotate_left
        ·go_simp
         rfl
        refine hK.out _ _ ⟨(cf (nb aE aM.out) (cf (nb aE aM.out) hHeld.1)), (cf (nb aD aM.out) (cf (nb aD aM.out) hHeld.2.1)), (cf (nb aG aM.out) (cf (nb aG aM.out) hHeld.2.2.1)), (cf (nb aF aM.out) (cf (nb aF aM.out) hHeld.2.2.2))⟩ (fun hHeld => ?_)
        clear hK K
        refine done_ (done_of HT_.out (by kernel_rfl)) ?_
        have eY := aB.out; have eZ := aC.out; obtain ⟨cB, cC, cD, cE⟩ := C2 aJ.out; obtain ⟨cF, cG, cH, cI⟩ := C2 aK.out
        try go_wp2
        go_roundg k1
        case measure => have := eT.out; omega
        case rel => exact ⟨(wrap64 (aA + 1)), Z17, H', ⟨by have := eT.out; omega⟩, ⟨Z5 aN.out aO.out⟩⟩
       ·rw [if_neg c8] at H
        have bV : (((rd_T96 l0 aA).f0) == ((rd_T96 l1 aA).f0) && (((rd_T96 l0 aA).f1) == ((rd_T96 l1 aA).f1))) = false := by simpa using c8
        (try (have eM : decide (((rd_T96 l0 aA).f0) = ((rd_T96 l1 aA).f0) && (((rd_T96 l0 aA).f1) == ((rd_T96 l1 aA).f1))) = false := by simpa using c8)); (try (have eN : (((rd_T96 l0 aA).f0) == ((rd_T96 l1 aA).f0) && (((rd_T96 l0 aA).f1) == ((rd_T96 l1 aA).f1))) = false := by simpa using c8)); (try (have fZ : ¬ (((rd_T96 l0 aA).f0) = ((rd_T96 l1 aA).f0) && (((rd_T96 l0 aA).f1) == ((rd_T96 l1 aA).f1))) := by simpa using c8)); clear c8
        by_cases bP : ((rd_T96 l0 aA).f0) < ((rd_T96 l1 aA).f0)
        ·rw [if_pos bP] at H
         have bW := dt bP; clear bP; obtain rfl := Option.some.inj H
         try go_wp2
         replace HB := A_ (below_drew1 HB.out); have aV : 0 ≤ (aA : Int) := odt; have aW : aA < (l0.length : Int) := odt; obtain ⟨aP, aZ, aR, aS⟩ := at_T96 bR.out aA aV aW; have aD := aS; have aE := aR; cases aZ; replace aR := ZC HB.out aR; replace aS := ZC HB.out aS; replace aV := eq_true aV; replace aW := eq_true aW; have aX : 0 ≤ (aA : Int) := odt; have aY : aA < (l1.length : Int) := odt; obtain ⟨aQ, a0, aT, aU⟩ := at_T96 bT.out aA aX aY; have aF := aU; have aG := aT; cases a0; replace aT := ZC HB.out aT; replace aU := ZC HB.out aU; replace aX := eq_true aX; replace aY := eq_true aY
         refine start_ (n := 12) (S := fun w' => w'.cell? (aP.add ((aA).toNat * 2)) = some (.int .i64 ((rd_T96 l0 aA).f0)) ∧ w'.cell? ⟨(aP.add ((aA).toNat * 2)).block, (aP.add ((aA).toNat * 2)).off + 1, none⟩ = some (.int .i64 ((rd_T96 l0 aA).f1)) ∧ w'.cell? (aQ.add ((aA).toNat * 2)) = some (.int .i64 ((rd_T96 l1 aA).f0)) ∧ w'.cell? ⟨(aQ.add ((aA).toNat * 2)).block, (aQ.add ((aA).toNat * 2)).off + 1, none⟩ = some (.int .i64 ((rd_T96 l1 aA).f1))) (ds := []) M11 (by kernel_rfl) rfl rfl ⟨(ZC HB.out aE :), (ZC HB.out aD :), (ZC HB.out aG :), (ZC HB.out aF :)⟩ (fun hHeld => ?_); refine with_tabW impl_placeCmp.tab4 impl_placeCmp.bits4 (fun HT_ HW_ => ?_)
         generalize wr.drew = gV at HB aR aS aT aU hHeld ⊢; refine pU 0 16 M12 ?_; refine pU 1 17 M13 ?_; refine pU 2 18 M14 ?_; refine pU 4 20 M15 ?_; refine pU 5 21 M16 ?_; refine pU 6 22 M17 ?_; refine tU 3 19 M18 ?_ (y := Z30); refine tU 7 23 M19 ?_ (y := Z30)
         refine join_ (σ := Nat × Nat) 2 M20 (fun s_ => [(6, .pointer (some ⟨s_.1, 0, none⟩)), (7, .pointer (some ⟨s_.2, 0, none⟩))]) (fun s_ w' => (w'.cell? (aP.add ((aA).toNat * 2)) = some (.int .i64 ((rd_T96 l0 aA).f0)) ∧ w'.cell? ⟨(aP.add ((aA).toNat * 2)).block, (aP.add ((aA).toNat * 2)).off + 1, none⟩ = some (.int .i64 ((rd_T96 l0 aA).f1)) ∧ w'.cell? (aQ.add ((aA).toNat * 2)) = some (.int .i64 ((rd_T96 l1 aA).f0)) ∧ w'.cell? ⟨(aQ.add ((aA).toNat * 2)).block, (aQ.add ((aA).toNat * 2)).off + 1, none⟩ = some (.int .i64 ((rd_T96 l1 aA).f1))) ∧ (w'.heap[s_.1]? = some (.cells #[.int .i64 0, .int .i64 0] 96 (0, 0))) ∧ (w'.heap[s_.2]? = some (.cells #[.int .i64 0, .int .i64 0] 96 (0, 0))) ∧ (w.heap.size ≤ s_.1) ∧ (w.heap.size ≤ s_.1) ∧ (s_.2 ≠ s_.1) ∧ (s_.1 ≠ s_.2) ∧ (w.heap.size ≤ s_.2) ∧ (w.heap.size ≤ s_.2) ∧ (Below w.heap.size w w')) ?_ ?_
         rotate_left
         ·intro hCont
          refine two_ (i := 8) (j := 9) (Ni := some 6) (Nj := some 7) M21 M22 rfl rfl rfl rfl (two_of HT_.out (by kernel_rfl)) (by decide) (by decide) (fun K hK => ?_) (fun K hK => ?_)
          ·skip
           refine box_step ?hg (N := 6) ?hd (cs := #[.int .i64 0, .int .i64 0]) (t := 96) ?hr ?_; (case hd => rfl); (case hg => rfl); (case hr => exact Z36)
           intro aH hg f3 hbox hb
           have aJ := A_ hbox; have aL := A_ (gl hg (bz Z1)); have aN := A_ (gl hg (bz Z1)); replace HB := A_ (bst Z1 hb); clear hb hbox hg
           refine hK.out _ _ ⟨(ZC HB.out aE :), (ZC HB.out aD :), (ZC HB.out aG :), (ZC HB.out aF :)⟩ (fun hHeld => ?_)
           clear hK K
           refine norm_ (a' := ?_) ?_ ?_
           rotate_left; (·exact Z29)
           refine oU 9 (some 7) M20 (fun K hK => ?_)
           refine box_step ?hg (N := 7) ?hd (cs := #[.int .i64 0, .int .i64 0]) (t := 96) ?hr ?_; (case hd => rfl); (case hg => rfl); (case hr => exact Z36)
           intro aI hg f4 hbox hb
           have aK := A_ hbox; have aM := A_ (gl hg (bz (Z3 aN.out))); have aO := A_ (gl hg (bz (Z3 aN.out))); replace HB := A_ (bst (Z3 aN.out) hb); have aB := A_ ((by rw [hg]; exact nl (blk_lt (Z2 aJ.out)) : aH ≠ aI)); have aC := A_ ((by rw [hg]; exact Nat.ne_of_gt (blk_lt (Z2 aJ.out)) : aI ≠ aH)); replace aJ := A_ (bb (Z2 aJ.out) hb); clear hb hbox hg
           refine hK.out _ _ ⟨(ZC HB.out aE :), (ZC HB.out aD :), (ZC HB.out aG :), (ZC HB.out aF :)⟩ (fun hHeld => ?_)
           clear hK K
           refine norm_ (a' := ?_) ?_ ?_
           rotate_left; (·exact Z28)
           exact norm_ Z35 (hCont (aH, aI) _ ⟨hHeld, (Z2 aJ.out), (Z2 aK.out), aL.out, aN.out, aC.out, aB.out, aM.out, aO.out, (Z5 aN.out aO.out)⟩)
          ·skip
           refine box_step ?hg (N := 7) ?hd (cs := #[.int .i64 0, .int .i64 0]) (t := 96) ?hr ?_; (case hd => rfl); (case hg => rfl); (case hr => exact Z36)
           intro aI hg f3 hbox hb
           have aK := A_ hbox; have aM := A_ (gl hg (bz Z1)); have aO := A_ (gl hg (bz Z1)); replace HB := A_ (bst Z1 hb); clear hb hbox hg
           refine hK.out _ _ ⟨(ZC HB.out aE :), (ZC HB.out aD :), (ZC HB.out aG :), (ZC HB.out aF :)⟩ (fun hHeld => ?_)
           clear hK K
           refine norm_ (a' := ?_) ?_ ?_
           rotate_left; (·exact Z28)
           refine oU 8 (some 6) M20 (fun K hK => ?_)
           refine box_step ?hg (N := 6) ?hd (cs := #[.int .i64 0, .int .i64 0]) (t := 96) ?hr ?_; (case hd => rfl); (case hg => rfl); (case hr => exact Z36)
           intro aH hg f4 hbox hb
           have aJ := A_ hbox; have aL := A_ (gl hg (bz (Z3 aO.out))); have aN := A_ (gl hg (bz (Z3 aO.out))); replace HB := A_ (bst (Z3 aO.out) hb); have aC := A_ ((by rw [hg]; exact nl (blk_lt (Z2 aK.out)) : aI ≠ aH)); have aB := A_ ((by rw [hg]; exact Nat.ne_of_gt (blk_lt (Z2 aK.out)) : aH ≠ aI)); replace aK := A_ (bb (Z2 aK.out) hb); clear hb hbox hg
           refine hK.out _ _ ⟨(ZC HB.out aE :), (ZC HB.out aD :), (ZC HB.out aG :), (ZC HB.out aF :)⟩ (fun hHeld => ?_)
           clear hK K
           refine norm_ (a' := ?_) ?_ ?_
           rotate_left; (·exact Z29)
           exact norm_ Z35 (hCont (aH, aI) _ ⟨hHeld, (Z2 aJ.out), (Z2 aK.out), aL.out, aN.out, aC.out, aB.out, aM.out, aO.out, (Z5 aO.out aN.out)⟩)
         rintro ⟨aH, aI⟩ bG ⟨hS_, a1, h1_, h2_, h3_, h4_, a2, a3, a4, a5⟩
         have a6 : Aside0 (bG.heap[aH]? = some (.cells #[.int .i64 0, .int .i64 0] 96 (0, 0))) := ⟨a1⟩; have a7 : Aside0 (bG.heap[aI]? = some (.cells #[.int .i64 0, .int .i64 0] 96 (0, 0))) := ⟨h1_⟩; have a8 : Aside0 (w.heap.size ≤ aH) := ⟨h2_⟩; have a9 : Aside0 (w.heap.size ≤ aH) := ⟨h3_⟩; have bA : Aside0 (aI ≠ aH) := ⟨h4_⟩; have bB : Aside0 (aH ≠ aI) := ⟨a2⟩; have bC : Aside0 (w.heap.size ≤ aI) := ⟨a3⟩; have bD : Aside0 (w.heap.size ≤ aI) := ⟨a4⟩; have bE : Aside0 (Below w.heap.size w bG) := ⟨a5⟩; clear HB; clear a1 h1_ h2_ h3_ h4_ a2 a3 a4 a5; have aJ := a6; have aK := a7; have aL := a8; have aN := a9; have aC := bA; have aB := bB; have aM := bC; have aO := bD; have HB := bE; clear a6 a7 a8 a9 bA bB bC bD bE; have hHeld : bG.cell? (aP.add ((aA).toNat * 2)) = some (.int .i64 ((rd_T96 l0 aA).f0)) ∧ bG.cell? ⟨(aP.add ((aA).toNat * 2)).block, (aP.add ((aA).toNat * 2)).off + 1, none⟩ = some (.int .i64 ((rd_T96 l0 aA).f1)) ∧ bG.cell? (aQ.add ((aA).toNat * 2)) = some (.int .i64 ((rd_T96 l1 aA).f0)) ∧ bG.cell? ⟨(aQ.add ((aA).toNat * 2)).block, (aQ.add ((aA).toNat * 2)).off + 1, none⟩ = some (.int .i64 ((rd_T96 l1 aA).f1)) := hS_
         refine norm_ (a' := ?_) ?_ ?_
         rotate_left; (·exact Z48)
         refine oU 10 none M23 (fun K hK => ?_)
         have f5 : bG.cell? ⟨aH, 0, none⟩ = some (.int .i64 0) := (bc aJ.out 0).trans rfl; have e0 := blk_frozen aJ.out 0; have cJ := aC.out; have cK := aB.out; have f6 : bG.cell? ⟨aH, 1, none⟩ = some (.int .i64 0) := (bc aJ.out 1).trans rfl; have e1 := blk_frozen aJ.out 1; have cL := aC.out; have cM := aB.out
         refine skip_ (w1 := ?_) (by rfl) rfl ?_ ?_
         rotate_left
         ·go_simp
          rfl
         refine hK.out _ _ ⟨(cf (nb aE aL.out) (cf (nb aE aL.out) hHeld.1)), (cf (nb aD aL.out) (cf (nb aD aL.out) hHeld.2.1)), (cf (nb aG aL.out) (cf (nb aG aL.out) hHeld.2.2.1)), (cf (nb aF aL.out) (cf (nb aF aL.out) hHeld.2.2.2))⟩ (fun hHeld => ?_)
         clear hK K
         refine oU 11 none M24 (fun K hK => ?_)
         have f7 : bG.cell? ⟨aI, 0, none⟩ = some (.int .i64 0) := (bc aK.out 0).trans rfl; have e2 := blk_frozen aK.out 0; have cN := aB.out; have cO := aC.out; have f8 : bG.cell? ⟨aI, 1, none⟩ = some (.int .i64 0) := (bc aK.out 1).trans rfl; have e3 := blk_frozen aK.out 1; have cP := aB.out; have cQ := aC.out
         refine skip_ (w1 := ?_) (by rfl) rfl ?_ ?_
         rotate_left
         ·go_simp
          rfl
         refine hK.out _ _ ⟨(cf (nb aE aM.out) (cf (nb aE aM.out) hHeld.1)), (cf (nb aD aM.out) (cf (nb aD aM.out) hHeld.2.1)), (cf (nb aG aM.out) (cf (nb aG aM.out) hHeld.2.2.1)), (cf (nb aF aM.out) (cf (nb aF aM.out) hHeld.2.2.2))⟩ (fun hHeld => ?_)
         clear hK K
         refine done_ (done_of HT_.out (by kernel_rfl)) ?_
         have e4 := aB.out; have e5 := aC.out; obtain ⟨cR, cS, cT, cU⟩ := C2 aJ.out; obtain ⟨cV, cW, cX, cY⟩ := C2 aK.out
         try go_wp2
         go_ret
         exact ⟨Z37, Z5 aN.out aO.out⟩
        ·rw [if_neg bP] at H
         have bW := df bP; clear bP
         by_cases bN : ((rd_T96 l0 aA).f0) = ((rd_T96 l1 aA).f0)
         ·rw [if_pos bN] at H
          have bK : (((rd_T96 l0 aA).f0) == ((rd_T96 l1 aA).f0)) = true := beq_iff_eq.mpr bN
          have f9 : (((rd_T96 l0 aA).f1) == ((rd_T96 l1 aA).f1)) = false := by have hq_ := bV; rw [bK, Bool.true_and] at hq_; exact hq_
          have bX : (((rd_T96 l0 aA).f0) != ((rd_T96 l1 aA).f0)) = false := bne_eq_false_iff_eq.mpr bN; clear bN
          by_cases bQ : ((rd_T96 l0 aA).f1) < ((rd_T96 l1 aA).f1)
          ·rw [if_pos bQ] at H
           have bY := dt bQ; clear bQ; obtain rfl := Option.some.inj H
           try go_wp2
           replace HB := A_ (below_drew1 HB.out); have aV : 0 ≤ (aA : Int) := odt; have aW : aA < (l0.length : Int) := odt; obtain ⟨aP, aZ, aR, aS⟩ := at_T96 bR.out aA aV aW; have aD := aS; have aE := aR; cases aZ; replace aR := ZC HB.out aR; replace aS := ZC HB.out aS; replace aV := eq_true aV; replace aW := eq_true aW; have aX : 0 ≤ (aA : Int) := odt; have aY : aA < (l1.length : Int) := odt; obtain ⟨aQ, a0, aT, aU⟩ := at_T96 bT.out aA aX aY; have aF := aU; have aG := aT; cases a0; replace aT := ZC HB.out aT; replace aU := ZC HB.out aU; replace aX := eq_true aX; replace aY := eq_true aY
           refine start_ (n := 12) (S := fun w' => w'.cell? (aP.add ((aA).toNat * 2)) = some (.int .i64 ((rd_T96 l0 aA).f0)) ∧ w'.cell? ⟨(aP.add ((aA).toNat * 2)).block, (aP.add ((aA).toNat * 2)).off + 1, none⟩ = some (.int .i64 ((rd_T96 l0 aA).f1)) ∧ w'.cell? (aQ.add ((aA).toNat * 2)) = some (.int .i64 ((rd_T96 l1 aA).f0)) ∧ w'.cell? ⟨(aQ.add ((aA).toNat * 2)).block, (aQ.add ((aA).toNat * 2)).off + 1, none⟩ = some (.int .i64 ((rd_T96 l1 aA).f1))) (ds := []) M11 (by kernel_rfl) rfl rfl ⟨(ZC HB.out aE :), (ZC HB.out aD :), (ZC HB.out aG :), (ZC HB.out aF :)⟩ (fun hHeld => ?_); refine with_tabW impl_placeCmp.tab4 impl_placeCmp.bits4 (fun HT_ HW_ => ?_)
           generalize wr.drew = gW at HB aR aS aT aU hHeld ⊢; refine pU 0 16 M12 ?_; refine pU 1 17 M13 ?_; refine pU 2 18 M14 ?_; refine pU 4 20 M15 ?_; refine pU 5 21 M16 ?_; refine pU 6 22 M17 ?_; refine tU 3 19 M18 ?_ (y := Z30); refine tU 7 23 M19 ?_ (y := Z30)
           refine join_ (σ := Nat × Nat) 2 M20 (fun s_ => [(6, .pointer (some ⟨s_.1, 0, none⟩)), (7, .pointer (some ⟨s_.2, 0, none⟩))]) (fun s_ w' => (w'.cell? (aP.add ((aA).toNat * 2)) = some (.int .i64 ((rd_T96 l0 aA).f0)) ∧ w'.cell? ⟨(aP.add ((aA).toNat * 2)).block, (aP.add ((aA).toNat * 2)).off + 1, none⟩ = some (.int .i64 ((rd_T96 l0 aA).f1)) ∧ w'.cell? (aQ.add ((aA).toNat * 2)) = some (.int .i64 ((rd_T96 l1 aA).f0)) ∧ w'.cell? ⟨(aQ.add ((aA).toNat * 2)).block, (aQ.add ((aA).toNat * 2)).off + 1, none⟩ = some (.int .i64 ((rd_T96 l1 aA).f1))) ∧ (w'.heap[s_.1]? = some (.cells #[.int .i64 0, .int .i64 0] 96 (0, 0))) ∧ (w'.heap[s_.2]? = some (.cells #[.int .i64 0, .int .i64 0] 96 (0, 0))) ∧ (w.heap.size ≤ s_.1) ∧ (w.heap.size ≤ s_.1) ∧ (s_.2 ≠ s_.1) ∧ (s_.1 ≠ s_.2) ∧ (w.heap.size ≤ s_.2) ∧ (w.heap.size ≤ s_.2) ∧ (Below w.heap.size w w')) ?_ ?_
           rotate_left
           ·intro hCont
            refine two_ (i := 8) (j := 9) (Ni := some 6) (Nj := some 7) M21 M22 rfl rfl rfl rfl (two_of HT_.out (by kernel_rfl)) (by decide) (by decide) (fun K hK => ?_) (fun K hK => ?_)
            ·skip
             refine box_step ?hg (N := 6) ?hd (cs := #[.int .i64 0, .int .i64 0]) (t := 96) ?hr ?_; (case hd => rfl); (case hg => rfl); (case hr => exact Z36)
             intro aH hg gA hbox hb
             have aJ := A_ hbox; have aL := A_ (gl hg (bz Z1)); have aN := A_ (gl hg (bz Z1)); replace HB := A_ (bst Z1 hb); clear hb hbox hg
             refine hK.out _ _ ⟨(ZC HB.out aE :), (ZC HB.out aD :), (ZC HB.out aG :), (ZC HB.out aF :)⟩ (fun hHeld => ?_)
             clear hK K
             refine norm_ (a' := ?_) ?_ ?_
             rotate_left; (·exact Z29)
             refine oU 9 (some 7) M20 (fun K hK => ?_)
             refine box_step ?hg (N := 7) ?hd (cs := #[.int .i64 0, .int .i64 0]) (t := 96) ?hr ?_; (case hd => rfl); (case hg => rfl); (case hr => exact Z36)
             intro aI hg gB hbox hb
             have aK := A_ hbox; have aM := A_ (gl hg (bz (Z3 aN.out))); have aO := A_ (gl hg (bz (Z3 aN.out))); replace HB := A_ (bst (Z3 aN.out) hb); have aB := A_ ((by rw [hg]; exact nl (blk_lt (Z2 aJ.out)) : aH ≠ aI)); have aC := A_ ((by rw [hg]; exact Nat.ne_of_gt (blk_lt (Z2 aJ.out)) : aI ≠ aH)); replace aJ := A_ (bb (Z2 aJ.out) hb); clear hb hbox hg
             refine hK.out _ _ ⟨(ZC HB.out aE :), (ZC HB.out aD :), (ZC HB.out aG :), (ZC HB.out aF :)⟩ (fun hHeld => ?_)
             clear hK K
             refine norm_ (a' := ?_) ?_ ?_
             rotate_left; (·exact Z28)
             exact norm_ Z35 (hCont (aH, aI) _ ⟨hHeld, (Z2 aJ.out), (Z2 aK.out), aL.out, aN.out, aC.out, aB.out, aM.out, aO.out, (Z5 aN.out aO.out)⟩)
            ·skip
             refine box_step ?hg (N := 7) ?hd (cs := #[.int .i64 0, .int .i64 0]) (t := 96) ?hr ?_; (case hd => rfl); (case hg => rfl); (case hr => exact Z36)
             intro aI hg gA hbox hb
             have aK := A_ hbox; have aM := A_ (gl hg (bz Z1)); have aO := A_ (gl hg (bz Z1)); replace HB := A_ (bst Z1 hb); clear hb hbox hg
             refine hK.out _ _ ⟨(ZC HB.out aE :), (ZC HB.out aD :), (ZC HB.out aG :), (ZC HB.out aF :)⟩ (fun hHeld => ?_)
             clear hK K
             refine norm_ (a' := ?_) ?_ ?_
             rotate_left; (·exact Z28)
             refine oU 8 (some 6) M20 (fun K hK => ?_)
             refine box_step ?hg (N := 6) ?hd (cs := #[.int .i64 0, .int .i64 0]) (t := 96) ?hr ?_; (case hd => rfl); (case hg => rfl); (case hr => exact Z36)
             intro aH hg gB hbox hb
             have aJ := A_ hbox; have aL := A_ (gl hg (bz (Z3 aO.out))); have aN := A_ (gl hg (bz (Z3 aO.out))); replace HB := A_ (bst (Z3 aO.out) hb); have aC := A_ ((by rw [hg]; exact nl (blk_lt (Z2 aK.out)) : aI ≠ aH)); have aB := A_ ((by rw [hg]; exact Nat.ne_of_gt (blk_lt (Z2 aK.out)) : aH ≠ aI)); replace aK := A_ (bb (Z2 aK.out) hb); clear hb hbox hg
             refine hK.out _ _ ⟨(ZC HB.out aE :), (ZC HB.out aD :), (ZC HB.out aG :), (ZC HB.out aF :)⟩ (fun hHeld => ?_)
             clear hK K
             refine norm_ (a' := ?_) ?_ ?_
             rotate_left; (·exact Z29)
             exact norm_ Z35 (hCont (aH, aI) _ ⟨hHeld, (Z2 aJ.out), (Z2 aK.out), aL.out, aN.out, aC.out, aB.out, aM.out, aO.out, (Z5 aO.out aN.out)⟩)
           rintro ⟨aH, aI⟩ bH ⟨hS_, a1, h1_, h2_, h3_, h4_, a2, a3, a4, a5⟩
           have a6 : Aside0 (bH.heap[aH]? = some (.cells #[.int .i64 0, .int .i64 0] 96 (0, 0))) := ⟨a1⟩; have a7 : Aside0 (bH.heap[aI]? = some (.cells #[.int .i64 0, .int .i64 0] 96 (0, 0))) := ⟨h1_⟩; have a8 : Aside0 (w.heap.size ≤ aH) := ⟨h2_⟩; have a9 : Aside0 (w.heap.size ≤ aH) := ⟨h3_⟩; have bA : Aside0 (aI ≠ aH) := ⟨h4_⟩; have bB : Aside0 (aH ≠ aI) := ⟨a2⟩; have bC : Aside0 (w.heap.size ≤ aI) := ⟨a3⟩; have bD : Aside0 (w.heap.size ≤ aI) := ⟨a4⟩; have bE : Aside0 (Below w.heap.size w bH) := ⟨a5⟩; clear HB; clear a1 h1_ h2_ h3_ h4_ a2 a3 a4 a5; have aJ := a6; have aK := a7; have aL := a8; have aN := a9; have aC := bA; have aB := bB; have aM := bC; have aO := bD; have HB := bE; clear a6 a7 a8 a9 bA bB bC bD bE; have hHeld : bH.cell? (aP.add ((aA).toNat * 2)) = some (.int .i64 ((rd_T96 l0 aA).f0)) ∧ bH.cell? ⟨(aP.add ((aA).toNat * 2)).block, (aP.add ((aA).toNat * 2)).off + 1, none⟩ = some (.int .i64 ((rd_T96 l0 aA).f1)) ∧ bH.cell? (aQ.add ((aA).toNat * 2)) = some (.int .i64 ((rd_T96 l1 aA).f0)) ∧ bH.cell? ⟨(aQ.add ((aA).toNat * 2)).block, (aQ.add ((aA).toNat * 2)).off + 1, none⟩ = some (.int .i64 ((rd_T96 l1 aA).f1)) := hS_
           refine norm_ (a' := ?_) ?_ ?_
           rotate_left; (·exact Z48)
           refine oU 10 none M23 (fun K hK => ?_)
           have gC : bH.cell? ⟨aH, 0, none⟩ = some (.int .i64 0) := (bc aJ.out 0).trans rfl; have e6 := blk_frozen aJ.out 0; have cZ := aC.out; have dA := aB.out; have gD : bH.cell? ⟨aH, 1, none⟩ = some (.int .i64 0) := (bc aJ.out 1).trans rfl; have e7 := blk_frozen aJ.out 1; have dB := aC.out; have dC := aB.out
           refine skip_ (w1 := ?_) (by rfl) rfl ?_ ?_
           rotate_left
           ·go_simp
            rfl
           refine hK.out _ _ ⟨(cf (nb aE aL.out) (cf (nb aE aL.out) hHeld.1)), (cf (nb aD aL.out) (cf (nb aD aL.out) hHeld.2.1)), (cf (nb aG aL.out) (cf (nb aG aL.out) hHeld.2.2.1)), (cf (nb aF aL.out) (cf (nb aF aL.out) hHeld.2.2.2))⟩ (fun hHeld => ?_)
           clear hK K
           refine oU 11 none M24 (fun K hK => ?_)
           have gE : bH.cell? ⟨aI, 0, none⟩ = some (.int .i64 0) := (bc aK.out 0).trans rfl; have e8 := blk_frozen aK.out 0; have dD := aB.out; have dE := aC.out; have gF : bH.cell? ⟨aI, 1, none⟩ = some (.int .i64 0) := (bc aK.out 1).trans rfl; have e9 := blk_frozen aK.out 1; have dF := aB.out; have dG := aC.out
           refine skip_ (w1 := ?_) (by rfl) rfl ?_ ?_
           rotate_left
           ·go_simp
            rfl
           refine hK.out _ _ ⟨(cf (nb aE aM.out) (cf (nb aE aM.out) hHeld.1)), (cf (nb aD aM.out) (cf (nb aD aM.out) hHeld.2.1)), (cf (nb aG aM.out) (cf (nb aG aM.out) hHeld.2.2.1)), (cf (nb aF aM.out) (cf (nb aF aM.out) hHeld.2.2.2))⟩ (fun hHeld => ?_)
           clear hK K
           refine done_ (done_of HT_.out (by kernel_rfl)) ?_
           have fA := aB.out; have fB := aC.out; obtain ⟨dH, dI, dJ, dK⟩ := C2 aJ.out; obtain ⟨dL, dM, dN, dO⟩ := C2 aK.out
           try go_wp2
           go_ret
           exact ⟨Z37, Z5 aN.out aO.out⟩
          ·rw [if_neg bQ] at H
           have bY := df bQ; clear bQ; obtain rfl := Option.some.inj H
           try go_wp2
           replace HB := A_ (below_drew1 HB.out); have aV : 0 ≤ (aA : Int) := odt; have aW : aA < (l0.length : Int) := odt; obtain ⟨aP, aZ, aR, aS⟩ := at_T96 bR.out aA aV aW; have aD := aS; have aE := aR; cases aZ; replace aR := ZC HB.out aR; replace aS := ZC HB.out aS; replace aV := eq_true aV; replace aW := eq_true aW; have aX : 0 ≤ (aA : Int) := odt; have aY : aA < (l1.length : Int) := odt; obtain ⟨aQ, a0, aT, aU⟩ := at_T96 bT.out aA aX aY; have aF := aU; have aG := aT; cases a0; replace aT := ZC HB.out aT; replace aU := ZC HB.out aU; replace aX := eq_true aX; replace aY := eq_true aY
           refine start_ (n := 12) (S := fun w' => w'.cell? (aP.add ((aA).toNat * 2)) = some (.int .i64 ((rd_T96 l0 aA).f0)) ∧ w'.cell? ⟨(aP.add ((aA).toNat * 2)).block, (aP.add ((aA).toNat * 2)).off + 1, none⟩ = some (.int .i64 ((rd_T96 l0 aA).f1)) ∧ w'.cell? (aQ.add ((aA).toNat * 2)) = some (.int .i64 ((rd_T96 l1 aA).f0)) ∧ w'.cell? ⟨(aQ.add ((aA).toNat * 2)).block, (aQ.add ((aA).toNat * 2)).off + 1, none⟩ = some (.int .i64 ((rd_T96 l1 aA).f1))) (ds := []) M11 (by kernel_rfl) rfl rfl ⟨(ZC HB.out aE :), (ZC HB.out aD :), (ZC HB.out aG :), (ZC HB.out aF :)⟩ (fun hHeld => ?_); refine with_tabW impl_placeCmp.tab4 impl_placeCmp.bits4 (fun HT_ HW_ => ?_)
           generalize wr.drew = gX at HB aR aS aT aU hHeld ⊢; refine pU 0 16 M12 ?_; refine pU 1 17 M13 ?_; refine pU 2 18 M14 ?_; refine pU 4 20 M15 ?_; refine pU 5 21 M16 ?_; refine pU 6 22 M17 ?_; refine tU 3 19 M18 ?_ (y := Z30); refine tU 7 23 M19 ?_ (y := Z30)
           refine join_ (σ := Nat × Nat) 2 M20 (fun s_ => [(6, .pointer (some ⟨s_.1, 0, none⟩)), (7, .pointer (some ⟨s_.2, 0, none⟩))]) (fun s_ w' => (w'.cell? (aP.add ((aA).toNat * 2)) = some (.int .i64 ((rd_T96 l0 aA).f0)) ∧ w'.cell? ⟨(aP.add ((aA).toNat * 2)).block, (aP.add ((aA).toNat * 2)).off + 1, none⟩ = some (.int .i64 ((rd_T96 l0 aA).f1)) ∧ w'.cell? (aQ.add ((aA).toNat * 2)) = some (.int .i64 ((rd_T96 l1 aA).f0)) ∧ w'.cell? ⟨(aQ.add ((aA).toNat * 2)).block, (aQ.add ((aA).toNat * 2)).off + 1, none⟩ = some (.int .i64 ((rd_T96 l1 aA).f1))) ∧ (w'.heap[s_.1]? = some (.cells #[.int .i64 0, .int .i64 0] 96 (0, 0))) ∧ (w'.heap[s_.2]? = some (.cells #[.int .i64 0, .int .i64 0] 96 (0, 0))) ∧ (w.heap.size ≤ s_.1) ∧ (w.heap.size ≤ s_.1) ∧ (s_.2 ≠ s_.1) ∧ (s_.1 ≠ s_.2) ∧ (w.heap.size ≤ s_.2) ∧ (w.heap.size ≤ s_.2) ∧ (Below w.heap.size w w')) ?_ ?_
           rotate_left
           ·intro hCont
            refine two_ (i := 8) (j := 9) (Ni := some 6) (Nj := some 7) M21 M22 rfl rfl rfl rfl (two_of HT_.out (by kernel_rfl)) (by decide) (by decide) (fun K hK => ?_) (fun K hK => ?_)
            ·skip
             refine box_step ?hg (N := 6) ?hd (cs := #[.int .i64 0, .int .i64 0]) (t := 96) ?hr ?_; (case hd => rfl); (case hg => rfl); (case hr => exact Z36)
             intro aH hg gG hbox hb
             have aJ := A_ hbox; have aL := A_ (gl hg (bz Z1)); have aN := A_ (gl hg (bz Z1)); replace HB := A_ (bst Z1 hb); clear hb hbox hg
             refine hK.out _ _ ⟨(ZC HB.out aE :), (ZC HB.out aD :), (ZC HB.out aG :), (ZC HB.out aF :)⟩ (fun hHeld => ?_)
             clear hK K
             refine norm_ (a' := ?_) ?_ ?_
             rotate_left; (·exact Z29)
             refine oU 9 (some 7) M20 (fun K hK => ?_)
             refine box_step ?hg (N := 7) ?hd (cs := #[.int .i64 0, .int .i64 0]) (t := 96) ?hr ?_; (case hd => rfl); (case hg => rfl); (case hr => exact Z36)
             intro aI hg gH hbox hb
             have aK := A_ hbox; have aM := A_ (gl hg (bz (Z3 aN.out))); have aO := A_ (gl hg (bz (Z3 aN.out))); replace HB := A_ (bst (Z3 aN.out) hb); have aB := A_ ((by rw [hg]; exact nl (blk_lt (Z2 aJ.out)) : aH ≠ aI)); have aC := A_ ((by rw [hg]; exact Nat.ne_of_gt (blk_lt (Z2 aJ.out)) : aI ≠ aH)); replace aJ := A_ (bb (Z2 aJ.out) hb); clear hb hbox hg
             refine hK.out _ _ ⟨(ZC HB.out aE :), (ZC HB.out aD :), (ZC HB.out aG :), (ZC HB.out aF :)⟩ (fun hHeld => ?_)
             clear hK K
             refine norm_ (a' := ?_) ?_ ?_
             rotate_left; (·exact Z28)
             exact norm_ Z35 (hCont (aH, aI) _ ⟨hHeld, (Z2 aJ.out), (Z2 aK.out), aL.out, aN.out, aC.out, aB.out, aM.out, aO.out, (Z5 aN.out aO.out)⟩)
            ·skip
             refine box_step ?hg (N := 7) ?hd (cs := #[.int .i64 0, .int .i64 0]) (t := 96) ?hr ?_; (case hd => rfl); (case hg => rfl); (case hr => exact Z36)
             intro aI hg gG hbox hb
             have aK := A_ hbox; have aM := A_ (gl hg (bz Z1)); have aO := A_ (gl hg (bz Z1)); replace HB := A_ (bst Z1 hb); clear hb hbox hg
             refine hK.out _ _ ⟨(ZC HB.out aE :), (ZC HB.out aD :), (ZC HB.out aG :), (ZC HB.out aF :)⟩ (fun hHeld => ?_)
             clear hK K
             refine norm_ (a' := ?_) ?_ ?_
             rotate_left; (·exact Z28)
             refine oU 8 (some 6) M20 (fun K hK => ?_)
             refine box_step ?hg (N := 6) ?hd (cs := #[.int .i64 0, .int .i64 0]) (t := 96) ?hr ?_; (case hd => rfl); (case hg => rfl); (case hr => exact Z36)
             intro aH hg gH hbox hb
             have aJ := A_ hbox; have aL := A_ (gl hg (bz (Z3 aO.out))); have aN := A_ (gl hg (bz (Z3 aO.out))); replace HB := A_ (bst (Z3 aO.out) hb); have aC := A_ ((by rw [hg]; exact nl (blk_lt (Z2 aK.out)) : aI ≠ aH)); have aB := A_ ((by rw [hg]; exact Nat.ne_of_gt (blk_lt (Z2 aK.out)) : aH ≠ aI)); replace aK := A_ (bb (Z2 aK.out) hb); clear hb hbox hg
             refine hK.out _ _ ⟨(ZC HB.out aE :), (ZC HB.out aD :), (ZC HB.out aG :), (ZC HB.out aF :)⟩ (fun hHeld => ?_)
             clear hK K
             refine norm_ (a' := ?_) ?_ ?_
             rotate_left; (·exact Z29)
             exact norm_ Z35 (hCont (aH, aI) _ ⟨hHeld, (Z2 aJ.out), (Z2 aK.out), aL.out, aN.out, aC.out, aB.out, aM.out, aO.out, (Z5 aO.out aN.out)⟩)
           rintro ⟨aH, aI⟩ bI ⟨hS_, a1, h1_, h2_, h3_, h4_, a2, a3, a4, a5⟩
           have a6 : Aside0 (bI.heap[aH]? = some (.cells #[.int .i64 0, .int .i64 0] 96 (0, 0))) := ⟨a1⟩; have a7 : Aside0 (bI.heap[aI]? = some (.cells #[.int .i64 0, .int .i64 0] 96 (0, 0))) := ⟨h1_⟩; have a8 : Aside0 (w.heap.size ≤ aH) := ⟨h2_⟩; have a9 : Aside0 (w.heap.size ≤ aH) := ⟨h3_⟩; have bA : Aside0 (aI ≠ aH) := ⟨h4_⟩; have bB : Aside0 (aH ≠ aI) := ⟨a2⟩; have bC : Aside0 (w.heap.size ≤ aI) := ⟨a3⟩; have bD : Aside0 (w.heap.size ≤ aI) := ⟨a4⟩; have bE : Aside0 (Below w.heap.size w bI) := ⟨a5⟩; clear HB; clear a1 h1_ h2_ h3_ h4_ a2 a3 a4 a5; have aJ := a6; have aK := a7; have aL := a8; have aN := a9; have aC := bA; have aB := bB; have aM := bC; have aO := bD; have HB := bE; clear a6 a7 a8 a9 bA bB bC bD bE; have hHeld : bI.cell? (aP.add ((aA).toNat * 2)) = some (.int .i64 ((rd_T96 l0 aA).f0)) ∧ bI.cell? ⟨(aP.add ((aA).toNat * 2)).block, (aP.add ((aA).toNat * 2)).off + 1, none⟩ = some (.int .i64 ((rd_T96 l0 aA).f1)) ∧ bI.cell? (aQ.add ((aA).toNat * 2)) = some (.int .i64 ((rd_T96 l1 aA).f0)) ∧ bI.cell? ⟨(aQ.add ((aA).toNat * 2)).block, (aQ.add ((aA).toNat * 2)).off + 1, none⟩ = some (.int .i64 ((rd_T96 l1 aA).f1)) := hS_
           refine norm_ (a' := ?_) ?_ ?_
           rotate_left; (·exact Z48)
           refine oU 10 none M23 (fun K hK => ?_)
           have gI : bI.cell? ⟨aH, 0, none⟩ = some (.int .i64 0) := (bc aJ.out 0).trans rfl; have fC := blk_frozen aJ.out 0; have dP := aC.out; have dQ := aB.out; have gJ : bI.cell? ⟨aH, 1, none⟩ = some (.int .i64 0) := (bc aJ.out 1).trans rfl; have fD := blk_frozen aJ.out 1; have dR := aC.out; have dS := aB.out
           refine skip_ (w1 := ?_) (by rfl) rfl ?_ ?_
           rotate_left
           ·go_simp
            rfl
           refine hK.out _ _ ⟨(cf (nb aE aL.out) (cf (nb aE aL.out) hHeld.1)), (cf (nb aD aL.out) (cf (nb aD aL.out) hHeld.2.1)), (cf (nb aG aL.out) (cf (nb aG aL.out) hHeld.2.2.1)), (cf (nb aF aL.out) (cf (nb aF aL.out) hHeld.2.2.2))⟩ (fun hHeld => ?_)
           clear hK K
           refine oU 11 none M24 (fun K hK => ?_)
           have gK : bI.cell? ⟨aI, 0, none⟩ = some (.int .i64 0) := (bc aK.out 0).trans rfl; have fE := blk_frozen aK.out 0; have dT := aB.out; have dU := aC.out; have gM : bI.cell? ⟨aI, 1, none⟩ = some (.int .i64 0) := (bc aK.out 1).trans rfl; have fF := blk_frozen aK.out 1; have dV := aB.out; have dW := aC.out
           refine skip_ (w1 := ?_) (by rfl) rfl ?_ ?_
           rotate_left
           ·go_simp
            rfl
           refine hK.out _ _ ⟨(cf (nb aE aM.out) (cf (nb aE aM.out) hHeld.1)), (cf (nb aD aM.out) (cf (nb aD aM.out) hHeld.2.1)), (cf (nb aG aM.out) (cf (nb aG aM.out) hHeld.2.2.1)), (cf (nb aF aM.out) (cf (nb aF aM.out) hHeld.2.2.2))⟩ (fun hHeld => ?_)
           clear hK K
           refine done_ (done_of HT_.out (by kernel_rfl)) ?_
           have fG := aB.out; have fH := aC.out; obtain ⟨dX, dY, dZ, d0⟩ := C2 aJ.out; obtain ⟨d1, d2, d3, d4⟩ := C2 aK.out
           try go_wp2
           go_ret
           exact ⟨Z37, Z5 aN.out aO.out⟩
         ·rw [if_neg bN] at H
          have bK : (((rd_T96 l0 aA).f0) == ((rd_T96 l1 aA).f0)) = false := beq_eq_false_iff_ne.mpr bN; have bX : (((rd_T96 l0 aA).f0) != ((rd_T96 l1 aA).f0)) = true := bne_iff_ne.mpr bN; obtain rfl := Option.some.inj H
          try go_wp2
          replace HB := A_ (below_drew1 HB.out); have aV : 0 ≤ (aA : Int) := odt; have aW : aA < (l0.length : Int) := odt; obtain ⟨aP, aZ, aR, aS⟩ := at_T96 bR.out aA aV aW; have aD := aS; have aE := aR; cases aZ; replace aR := ZC HB.out aR; replace aS := ZC HB.out aS; replace aV := eq_true aV; replace aW := eq_true aW; have aX : 0 ≤ (aA : Int) := odt; have aY : aA < (l1.length : Int) := odt; obtain ⟨aQ, a0, aT, aU⟩ := at_T96 bT.out aA aX aY; have aF := aU; have aG := aT; cases a0; replace aT := ZC HB.out aT; replace aU := ZC HB.out aU; replace aX := eq_true aX; replace aY := eq_true aY
          refine start_ (n := 12) (S := fun w' => w'.cell? (aP.add ((aA).toNat * 2)) = some (.int .i64 ((rd_T96 l0 aA).f0)) ∧ w'.cell? ⟨(aP.add ((aA).toNat * 2)).block, (aP.add ((aA).toNat * 2)).off + 1, none⟩ = some (.int .i64 ((rd_T96 l0 aA).f1)) ∧ w'.cell? (aQ.add ((aA).toNat * 2)) = some (.int .i64 ((rd_T96 l1 aA).f0)) ∧ w'.cell? ⟨(aQ.add ((aA).toNat * 2)).block, (aQ.add ((aA).toNat * 2)).off + 1, none⟩ = some (.int .i64 ((rd_T96 l1 aA).f1))) (ds := []) M11 (by kernel_rfl) rfl rfl ⟨(ZC HB.out aE :), (ZC HB.out aD :), (ZC HB.out aG :), (ZC HB.out aF :)⟩ (fun hHeld => ?_); refine with_tabW impl_placeCmp.tab4 impl_placeCmp.bits4 (fun HT_ HW_ => ?_)
          generalize wr.drew = gY at HB aR aS aT aU hHeld ⊢; refine pU 0 16 M12 ?_; refine pU 1 17 M13 ?_; refine pU 2 18 M14 ?_; refine pU 4 20 M15 ?_; refine pU 5 21 M16 ?_; refine pU 6 22 M17 ?_; refine tU 3 19 M18 ?_ (y := Z30); refine tU 7 23 M19 ?_ (y := Z30)
          refine join_ (σ := Nat × Nat) 2 M20 (fun s_ => [(6, .pointer (some ⟨s_.1, 0, none⟩)), (7, .pointer (some ⟨s_.2, 0, none⟩))]) (fun s_ w' => (w'.cell? (aP.add ((aA).toNat * 2)) = some (.int .i64 ((rd_T96 l0 aA).f0)) ∧ w'.cell? ⟨(aP.add ((aA).toNat * 2)).block, (aP.add ((aA).toNat * 2)).off + 1, none⟩ = some (.int .i64 ((rd_T96 l0 aA).f1)) ∧ w'.cell? (aQ.add ((aA).toNat * 2)) = some (.int .i64 ((rd_T96 l1 aA).f0)) ∧ w'.cell? ⟨(aQ.add ((aA).toNat * 2)).block, (aQ.add ((aA).toNat * 2)).off + 1, none⟩ = some (.int .i64 ((rd_T96 l1 aA).f1))) ∧ (w'.heap[s_.1]? = some (.cells #[.int .i64 0, .int .i64 0] 96 (0, 0))) ∧ (w'.heap[s_.2]? = some (.cells #[.int .i64 0, .int .i64 0] 96 (0, 0))) ∧ (w.heap.size ≤ s_.1) ∧ (w.heap.size ≤ s_.1) ∧ (s_.2 ≠ s_.1) ∧ (s_.1 ≠ s_.2) ∧ (w.heap.size ≤ s_.2) ∧ (w.heap.size ≤ s_.2) ∧ (Below w.heap.size w w')) ?_ ?_
          rotate_left
          ·intro hCont
           refine two_ (i := 8) (j := 9) (Ni := some 6) (Nj := some 7) M21 M22 rfl rfl rfl rfl (two_of HT_.out (by kernel_rfl)) (by decide) (by decide) (fun K hK => ?_) (fun K hK => ?_)
           ·skip
            refine box_step ?hg (N := 6) ?hd (cs := #[.int .i64 0, .int .i64 0]) (t := 96) ?hr ?_; (case hd => rfl); (case hg => rfl); (case hr => exact Z36)
            intro aH hg gN hbox hb
            have aJ := A_ hbox; have aL := A_ (gl hg (bz Z1)); have aN := A_ (gl hg (bz Z1)); replace HB := A_ (bst Z1 hb); clear hb hbox hg
            refine hK.out _ _ ⟨(ZC HB.out aE :), (ZC HB.out aD :), (ZC HB.out aG :), (ZC HB.out aF :)⟩ (fun hHeld => ?_)
            clear hK K
            refine norm_ (a' := ?_) ?_ ?_
            rotate_left; (·exact Z29)
            refine oU 9 (some 7) M20 (fun K hK => ?_)
            refine box_step ?hg (N := 7) ?hd (cs := #[.int .i64 0, .int .i64 0]) (t := 96) ?hr ?_; (case hd => rfl); (case hg => rfl); (case hr => exact Z36)
            intro aI hg gO hbox hb
            have aK := A_ hbox; have aM := A_ (gl hg (bz (Z3 aN.out))); have aO := A_ (gl hg (bz (Z3 aN.out))); replace HB := A_ (bst (Z3 aN.out) hb); have aB := A_ ((by rw [hg]; exact nl (blk_lt (Z2 aJ.out)) : aH ≠ aI)); have aC := A_ ((by rw [hg]; exact Nat.ne_of_gt (blk_lt (Z2 aJ.out)) : aI ≠ aH)); replace aJ := A_ (bb (Z2 aJ.out) hb); clear hb hbox hg
            refine hK.out _ _ ⟨(ZC HB.out aE :), (ZC HB.out aD :), (ZC HB.out aG :), (ZC HB.out aF :)⟩ (fun hHeld => ?_)
            clear hK K
            refine norm_ (a' := ?_) ?_ ?_
            rotate_left; (·exact Z28)
            exact norm_ Z35 (hCont (aH, aI) _ ⟨hHeld, (Z2 aJ.out), (Z2 aK.out), aL.out, aN.out, aC.out, aB.out, aM.out, aO.out, (Z5 aN.out aO.out)⟩)
           ·skip
            refine box_step ?hg (N := 7) ?hd (cs := #[.int .i64 0, .int .i64 0]) (t := 96) ?hr ?_; (case hd => rfl); (case hg => rfl); (case hr => exact Z36)
            intro aI hg gN hbox hb
            have aK := A_ hbox; have aM := A_ (gl hg (bz Z1)); have aO := A_ (gl hg (bz Z1)); replace HB := A_ (bst Z1 hb); clear hb hbox hg
            refine hK.out _ _ ⟨(ZC HB.out aE :), (ZC HB.out aD :), (ZC HB.out aG :), (ZC HB.out aF :)⟩ (fun hHeld => ?_)
            clear hK K
            refine norm_ (a' := ?_) ?_ ?_
            rotate_left; (·exact Z28)
            refine oU 8 (some 6) M20 (fun K hK => ?_)
            refine box_step ?hg (N := 6) ?hd (cs := #[.int .i64 0, .int .i64 0]) (t := 96) ?hr ?_; (case hd => rfl); (case hg => rfl); (case hr => exact Z36)
            intro aH hg gO hbox hb
            have aJ := A_ hbox; have aL := A_ (gl hg (bz (Z3 aO.out))); have aN := A_ (gl hg (bz (Z3 aO.out))); replace HB := A_ (bst (Z3 aO.out) hb); have aC := A_ ((by rw [hg]; exact nl (blk_lt (Z2 aK.out)) : aI ≠ aH)); have aB := A_ ((by rw [hg]; exact Nat.ne_of_gt (blk_lt (Z2 aK.out)) : aH ≠ aI)); replace aK := A_ (bb (Z2 aK.out) hb); clear hb hbox hg
            refine hK.out _ _ ⟨(ZC HB.out aE :), (ZC HB.out aD :), (ZC HB.out aG :), (ZC HB.out aF :)⟩ (fun hHeld => ?_)
            clear hK K
            refine norm_ (a' := ?_) ?_ ?_
            rotate_left; (·exact Z29)
            exact norm_ Z35 (hCont (aH, aI) _ ⟨hHeld, (Z2 aJ.out), (Z2 aK.out), aL.out, aN.out, aC.out, aB.out, aM.out, aO.out, (Z5 aO.out aN.out)⟩)
          rintro ⟨aH, aI⟩ bJ ⟨hS_, a1, h1_, h2_, h3_, h4_, a2, a3, a4, a5⟩
          have a6 : Aside0 (bJ.heap[aH]? = some (.cells #[.int .i64 0, .int .i64 0] 96 (0, 0))) := ⟨a1⟩; have a7 : Aside0 (bJ.heap[aI]? = some (.cells #[.int .i64 0, .int .i64 0] 96 (0, 0))) := ⟨h1_⟩; have a8 : Aside0 (w.heap.size ≤ aH) := ⟨h2_⟩; have a9 : Aside0 (w.heap.size ≤ aH) := ⟨h3_⟩; have bA : Aside0 (aI ≠ aH) := ⟨h4_⟩; have bB : Aside0 (aH ≠ aI) := ⟨a2⟩; have bC : Aside0 (w.heap.size ≤ aI) := ⟨a3⟩; have bD : Aside0 (w.heap.size ≤ aI) := ⟨a4⟩; have bE : Aside0 (Below w.heap.size w bJ) := ⟨a5⟩; clear HB; clear a1 h1_ h2_ h3_ h4_ a2 a3 a4 a5; have aJ := a6; have aK := a7; have aL := a8; have aN := a9; have aC := bA; have aB := bB; have aM := bC; have aO := bD; have HB := bE; clear a6 a7 a8 a9 bA bB bC bD bE; have hHeld : bJ.cell? (aP.add ((aA).toNat * 2)) = some (.int .i64 ((rd_T96 l0 aA).f0)) ∧ bJ.cell? ⟨(aP.add ((aA).toNat * 2)).block, (aP.add ((aA).toNat * 2)).off + 1, none⟩ = some (.int .i64 ((rd_T96 l0 aA).f1)) ∧ bJ.cell? (aQ.add ((aA).toNat * 2)) = some (.int .i64 ((rd_T96 l1 aA).f0)) ∧ bJ.cell? ⟨(aQ.add ((aA).toNat * 2)).block, (aQ.add ((aA).toNat * 2)).off + 1, none⟩ = some (.int .i64 ((rd_T96 l1 aA).f1)) := hS_
          refine norm_ (a' := ?_) ?_ ?_
          rotate_left; (·exact Z48)
          refine oU 10 none M23 (fun K hK => ?_)
          have gP : bJ.cell? ⟨aH, 0, none⟩ = some (.int .i64 0) := (bc aJ.out 0).trans rfl; have fI := blk_frozen aJ.out 0; have d5 := aC.out; have d6 := aB.out; have gQ : bJ.cell? ⟨aH, 1, none⟩ = some (.int .i64 0) := (bc aJ.out 1).trans rfl; have fJ := blk_frozen aJ.out 1; have d7 := aC.out; have d8 := aB.out
          refine skip_ (w1 := ?_) (by rfl) rfl ?_ ?_
          rotate_left
          ·go_simp
           rfl
          refine hK.out _ _ ⟨(cf (nb aE aL.out) (cf (nb aE aL.out) hHeld.1)), (cf (nb aD aL.out) (cf (nb aD aL.out) hHeld.2.1)), (cf (nb aG aL.out) (cf (nb aG aL.out) hHeld.2.2.1)), (cf (nb aF aL.out) (cf (nb aF aL.out) hHeld.2.2.2))⟩ (fun hHeld => ?_)
          clear hK K
          refine oU 11 none M24 (fun K hK => ?_)
          have gR : bJ.cell? ⟨aI, 0, none⟩ = some (.int .i64 0) := (bc aK.out 0).trans rfl; have fK := blk_frozen aK.out 0; have d9 := aB.out; have eA := aC.out; have gS : bJ.cell? ⟨aI, 1, none⟩ = some (.int .i64 0) := (bc aK.out 1).trans rfl; have fL := blk_frozen aK.out 1; have eB := aB.out; have eC := aC.out
          refine skip_ (w1 := ?_) (by rfl) rfl ?_ ?_
          rotate_left
          ·go_simp
           rfl
          refine hK.out _ _ ⟨(cf (nb aE aM.out) (cf (nb aE aM.out) hHeld.1)), (cf (nb aD aM.out) (cf (nb aD aM.out) hHeld.2.1)), (cf (nb aG aM.out) (cf (nb aG aM.out) hHeld.2.2.1)), (cf (nb aF aM.out) (cf (nb aF aM.out) hHeld.2.2.2))⟩ (fun hHeld => ?_)
          clear hK K
          refine done_ (done_of HT_.out (by kernel_rfl)) ?_
          have fM := aB.out; have fN := aC.out; obtain ⟨eD, eE, eF, eG⟩ := C2 aJ.out; obtain ⟨eH, eI, eJ, eK⟩ := C2 aK.out
          try go_wp2
          go_ret
          exact ⟨Z37, Z5 aN.out aO.out⟩
      ·rw [if_neg c7] at H
       exact absurd H (by simp)
     ·rw [if_neg c6] at H
      exact absurd H (by simp)
    ·rw [if_neg c5] at H
     exact absurd H (by simp)
   ·rw [if_neg c4] at H
    have eL := df c4; clear c4
    by_cases bL : (l0.length : Int) < (l1.length : Int)
    ·rw [if_pos bL] at H
     have bZ := dt bL; have b0 : decide (l0.length < l1.length) = true := dt (Int.ofNat_lt.mp bL); clear bL; obtain rfl := Option.some.inj H
     go_wp2
     go_ret
     exact ⟨Z37, Z1⟩
    ·rw [if_neg bL] at H
     have bZ := df bL; have b0 : decide (l0.length < l1.length) = false := df (fun h => bL (Int.ofNat_lt.mpr h)); clear bL
     by_cases bM : (l0.length : Int) > (l1.length : Int)
     ·rw [if_pos bM] at H
      have b1 : decide ((l1.length : Int) < (l0.length : Int)) = true := dt bM; have b2 : decide (l1.length < l0.length) = true := dt (Int.ofNat_lt.mp bM); clear bM; obtain rfl := Option.some.inj H
      go_wp2
      go_ret
      exact ⟨Z37, Z1⟩
     ·rw [if_neg bM] at H
      have b1 : decide ((l1.length : Int) < (l0.length : Int)) = false := df bM; have b2 : decide (l1.length < l0.length) = false := df (fun h => bM (Int.ofNat_lt.mpr h)); clear bM; obtain rfl := Option.some.inj H
      go_wp2
      go_ret
      exact ⟨Z37, Z1⟩
end Go.Proofs.Ytgbbcebjgpoioaa.PFnExactHistRedo
