/- Walks of the functions that the law 'FnStoreOk' reaches, part 12: for each a Lean function and the proof that Go's comes to just its answer (lines of the print, under own names; no condition). -/
import Derived.Test.YtheifobeaemegaaZFnStoreOkQFnStoreOkx0
import Derived.Test.YtheifobeaemegaaZFnStoreOkQFnStoreOkx1
import Derived.Test.YtheifobeaemegaaZFnStoreOkQFnStoreOkx6
import Derived.Test.YtheifobeaemegaaZFnStoreOkQFnStoreOkx8
import Derived.Test.YtheifobeaemegaaZFnStoreOkQFnStoreOkx9
import Derived.Test.YtheifobeaemegaaZFnStoreOkQFnStoreOkx11
namespace Go.Proofs.Ytheifobeaemegaa.PFnStoreOk
open Go.RowKit Go.Proofs.YtheifobeaemegaaW.PrintWords Go.Proofs.YtheifobeaemegaaW.PrintLast Go.Proofs.YtheifobeaemegaaW.PrintMore
attribute [local go_sem] max2_int min2_int max_two min_two max_three min_three max_four min_four
set_option linter.unusedVariables false
set_option linter.unusedSimpArgs false
attribute [local go_sem high] eqA28
def spec_StoreOk.f (k : Nat) (l0 : List (S41)) : Option (Bool) := (spec_validStore.f k l0).bind fun t356 => (some t356)
theorem spec_StoreOk.mono : ∀ a0 k, LeO (spec_StoreOk.f k a0) (spec_StoreOk.f (k + 1) a0) := by
 intro a0 k
 unfold spec_StoreOk.f
 repeat' first
   | (with_reducible exact spec_validStore.mono _ _)
   | (with_reducible exact LeO.refl _)
   | (with_reducible exact LeO.none _)
   | (with_reducible refine LeO.ite ?_ ?_)
   | (with_reducible refine LeO.bind ?_ (fun _ => ?_))
   | exact spec_validStore.mono _ _
   | exact LeO.none _
   | refine LeO.ite ?_ ?_
   | refine LeO.bind ?_ (fun _ => ?_)
set_option maxHeartbeats 8000000 in
set_option maxRecDepth 100000 in
theorem spec_StoreOk.calls (k : Nat) (A0 : Option Addr) (c0 : Nat) (l0 : List (S41)) (r : Bool) (w : World) (hr0 : Kd.C k41 w A0 l0.length l0) (hc0 : l0.length ≤ c0) (h : spec_StoreOk.f k l0 = some r) :
  Calls Try.prog 17 #[.slice A0 l0.length c0] w fun e w' => e = .returned (.bool r) ∧ Below w.heap.size w w' := by
 have HR0 := A_ hr0
 have HC0 := A_ hc0
 clear hr0 hc0
 have HB := A_ (Below.refl w.heap.size w)
 have H : ((spec_validStore.f k l0).bind fun t356 => (some t356)) = some r := h
 clear h
 replace H := Option.bind_eq_some_iff.mp H
 obtain ⟨t356, A20, H⟩ := H
 replace H : (some t356) = some r := H
 have A2 := A_ A20
 clear A20
 obtain rfl := Option.some.inj H
 go_enter Try.func17, Try.ntmps17
 go_wp2_with (first | ((with_reducible refine gate_callee (f := 45) rfl ?_); refine goesL_ (some 4) rfl rfl Try.func45 (by kernel_rfl) rfl #[.slice A0 l0.length c0] rfl Z3 ?_; (with_reducible refine (spec_validStore.calls k _ _ l0 t356 _ ?side1 ?side2 A2.out).mono ?_); (case side1 => exact Z29 HR0.out); (case side2 => exact HC0.out); rintro e w3 ⟨rfl, hb⟩; refine ⟨_, rfl, ?_⟩; have n0_ := A_ (below_step Z1 hb); clear HB; have HB := n0_; clear n0_; (try clear hb); (try clear hb2); (try clear hk); (try clear hi)))
 go_ret
 exact ⟨Z17, Z1⟩
def impl_storeFind.l0 : Nat → List (S68) → List (S41) → Int → Int → Option (Int)
 | 0, _, _, _, _ => none
 | k + 1, x1, x7, x8, x9 => if x9 < x8 then (if 0 ≤ x9 then (if x9 < (x7.length : Int) then ((impl_placeCmp.f k ((rd_T41 x7 x9).f0) x1).bind fun t359 => (if t359 = 0 then (some x9) else (impl_storeFind.l0 k x1 x7 x8 (wrap64 (x9 + 1))))) else (none)) else (none)) else (some (-1))
def impl_storeFind.f (k : Nat) (l0 : List (S41)) (l1 : List (S68)) : Option (Int) := impl_storeFind.l0 k l1 l0 (l0.length : Int) 0
theorem impl_storeFind.mono_l : ∀ k, (∀ y0 y1 y2 y3, LeO (impl_storeFind.l0 k y0 y1 y2 y3) (impl_storeFind.l0 (k + 1) y0 y1 y2 y3))
 | 0 => fun _ _ _ _ r h => by simp [impl_storeFind.l0] at h
 | k + 1 => by
  have ih0 := impl_storeFind.mono_l k
  ·intro y0 y1 y2 y3
   unfold impl_storeFind.l0
   repeat' first
   | (with_reducible exact ih0 _ _ _ _)
   | (with_reducible exact impl_placeCmp.mono _ _ _)
   | (with_reducible exact LeO.refl _)
   | (with_reducible exact LeO.none _)
   | (with_reducible refine LeO.ite ?_ ?_)
   | (with_reducible refine LeO.bind ?_ (fun _ => ?_))
   | exact ih0 _ _ _ _
   | exact impl_placeCmp.mono _ _ _
   | exact LeO.none _
   | refine LeO.ite ?_ ?_
   | refine LeO.bind ?_ (fun _ => ?_)
theorem impl_storeFind.mono : ∀ a0 a1 k, LeO (impl_storeFind.f k a0 a1) (impl_storeFind.f (k + 1) a0 a1) := by
 intro a0 a1 k
 have ih0 := impl_storeFind.mono_l k
 unfold impl_storeFind.f
 repeat' first
   | (with_reducible exact ih0 _ _ _ _)
   | (with_reducible exact impl_placeCmp.mono _ _ _)
   | (with_reducible exact LeO.refl _)
   | (with_reducible exact LeO.none _)
   | (with_reducible refine LeO.ite ?_ ?_)
   | (with_reducible refine LeO.bind ?_ (fun _ => ?_))
   | exact ih0 _ _ _ _
   | exact impl_placeCmp.mono _ _ _
   | exact LeO.none _
   | refine LeO.ite ?_ ?_
   | refine LeO.bind ?_ (fun _ => ?_)
set_option maxHeartbeats 8000000 in
set_option maxRecDepth 100000 in
theorem impl_storeFind.calls (k : Nat) (A0 : Option Addr) (c0 : Nat) (l0 : List (S41)) (A1 : Option Addr) (c1 : Nat) (l1 : List (S68)) (r : Int) (w : World) (hr0 : Kd.C k41 w A0 l0.length l0) (hc0 : l0.length ≤ c0) (hr1 : Kd.C k68 w A1 l1.length l1) (hc1 : l1.length ≤ c1) (h : impl_storeFind.f k l0 l1 = some r) :
  Calls Try.prog 46 #[.slice A0 l0.length c0, .slice A1 l1.length c1] w fun e w' => e = .returned (.int .i64 r) ∧ Below w.heap.size w w' := by
 have hu41 := Try.underlying41
 have HR0 := A_ hr0
 have HC0 := A_ hc0
 clear hr0 hc0
 have HR1 := A_ hr1
 have HC1 := A_ hc1
 clear hr1 hc1
 have HB := A_ (Below.refl w.heap.size w)
 have H : (impl_storeFind.l0 k l1 l0 (l0.length : Int) 0) = some r := h
 clear h
 have H' := A_ H
 clear H
 go_enter Try.func46, Try.ntmps46
 go_wp2
 go_loopg [9] k (fun kq v9 w' => ∃ (x9_1 : Int), v9 = .int .i64 x9_1 ∧ Aside0 (impl_storeFind.l0 kq l1 l0 (l0.length : Int) x9_1 = some r) ∧ Aside0 (kq ≤ k) ∧ Aside0 (Below w.heap.size w w'))
 case atStart => exact ⟨(0), Z21, H', ⟨Nat.le_refl _⟩, ⟨Z1⟩⟩
 case round =>
  clear H'
  try clear c1
  try clear p2
  obtain ⟨x9_1, rfl, HA, HK1, HB⟩ := hrel
  cases gk with
  | zero => exact absurd HA.out (by simp [impl_storeFind.l0])
  | succ k1 =>
   have H := HA.out
   clear HA
   simp only [impl_storeFind.l0] at H
   by_cases c3 : x9_1 < (l0.length : Int)
   ·rw [if_pos c3] at H
    have c3b0 : decide (x9_1 < (l0.length : Int)) = true := decide_eq_true c3
    clear c3
    by_cases c4 : 0 ≤ x9_1
    ·rw [if_pos c4] at H
     have c4b0 : decide (0 ≤ x9_1) = true := decide_eq_true c4
     clear c4
     by_cases c5 : x9_1 < (l0.length : Int)
     ·rw [if_pos c5] at H
      have c5b0 : decide (x9_1 < (l0.length : Int)) = true := decide_eq_true c5
      clear c5
      replace H := Option.bind_eq_some_iff.mp H
      obtain ⟨t359, A60, H⟩ := H
      replace H : (if t359 = 0 then (some x9_1) else (impl_storeFind.l0 k1 l1 l0 (l0.length : Int) (wrap64 (x9_1 + 1)))) = some r := H
      have A6 := A_ A60
      clear A60
      by_cases c7 : t359 = 0
      ·rw [if_pos c7] at H
       have c7b0 : (t359 == 0) = true := beq_iff_eq.mpr c7
       have c7b1 : (t359 != 0) = false := bne_eq_false_iff_eq.mpr c7
       clear c7
       obtain rfl := Option.some.inj H
       have p357 : 0 ≤ (x9_1 : Int) := of_decide_eq_true Z13
       have q357 : x9_1 < (l0.length : Int) := of_decide_eq_true Z13
       obtain ⟨ad357, A357_0, c357_0, A357_1, c357_1, e357, hx357_0, hx357_1, hl357_0, hi357_0, hl357_1, hi357_1⟩ := at_T41 HR0.out x9_1 p357 q357
       cases e357
       replace hx357_0 := ZC HB.out hx357_0
       replace hx357_1 := ZC HB.out hx357_1
       have HR357_0 := A_ hi357_0
       have HC357_0 := A_ hl357_0
       clear hi357_0 hl357_0
       have HR357_1 := A_ hi357_1
       have HC357_1 := A_ hl357_1
       clear hi357_1 hl357_1
       replace p357 := eq_true p357
       replace q357 := eq_true q357
       go_wp2_with (first | ((with_reducible refine gate_dst (N := 6) rfl ?_); refine box_event ?hg (N := 6) ?hd (cs := #[.slice none 0 0, .slice none 0 0]) (t := 41) ?hr ?_; (case hd => rfl); (case hg => rfl); (case hr => exact Z24); intro gb358 hg w8 hbox hb; have n0_ := A_ (below_step Z1 hb); have n1_ := A_ (hbox); have n2_ := A_ ((by rw [hg]; exact (below_size Z1) : w.heap.size ≤ gb358)); have n3_ := A_ ((by rw [hg]; exact (below_size Z1) : w.heap.size ≤ gb358)); clear HB; have HB := n0_; have BK358 := n1_; have GW358 := n2_; have GE358 := n3_; clear n0_ n1_ n2_ n3_; clear hb hbox hg; have hcz9_0 : w8.cell? ⟨gb358, 0, none⟩ = some (.slice none 0 0) := (blk_cell BK358.out 0).trans rfl; have hcz9_1 : w8.cell? ⟨gb358, 1, none⟩ = some (.slice none 0 0) := (blk_cell BK358.out 1).trans rfl; have hfz9_0 := blk_frozen BK358.out 0; have hfz9_1 := blk_frozen BK358.out 1) | ((with_reducible refine gate_callee (f := 44) rfl ?_); refine goesL_ (some 17) rfl rfl Try.func44 (by kernel_rfl) rfl #[.slice A357_0 ((rd_T41 l0 x9_1).f0).length c357_0, .slice A1 l1.length c1] rfl Z3 ?_; (with_reducible refine (impl_placeCmp.calls k1 _ _ ((rd_T41 l0 x9_1).f0) _ _ l1 t359 _ ?side1 ?side2 ?side3 ?side4 A6.out).mono ?_); (case side1 => exact Kd.C_below HR357_0.out (Z2 GE358.out)); (case side2 => exact HC357_0.out); (case side3 => exact Kd.C_below HR1.out (Z2 GE358.out)); (case side4 => exact HC1.out); rintro e w10 ⟨rfl, hb⟩; refine ⟨_, rfl, ?_⟩; have n0_ := A_ (blk_below (g := gb358) (o := .cells #[.slice A357_0 ((rd_T41 l0 x9_1).f0).length c357_0, .slice A357_1 ((rd_T41 l0 x9_1).f1).length c357_1] 41 (0, 0)) (by (with_reducible repeat (first | refine blk_drewN ?_ _ | refine blk_drew ?_ | refine blk_alloc ?_ _)); refine blk_put (cs := #[.slice A357_0 ((rd_T41 l0 x9_1).f0).length c357_0, .slice none 0 0]) ?_ 1 _ rfl; (with_reducible repeat (first | refine blk_drewN ?_ _ | refine blk_drew ?_ | refine blk_alloc ?_ _)); refine blk_put (cs := #[.slice none 0 0, .slice none 0 0]) ?_ 0 _ rfl; (with_reducible repeat (first | refine blk_drewN ?_ _ | refine blk_drew ?_ | refine blk_alloc ?_ _)); exact BK358.out) hb); have n1_ := A_ (below_step (Z2 GE358.out) hb); clear BK358; clear HB; have BK358 := n0_; have HB := n1_; clear n0_ n1_; (try clear hb); (try clear hb2); (try clear hk); (try clear hi)))
       go_ret
       exact ⟨Z17, Z2 GE358.out⟩
      ·rw [if_neg c7] at H
       have c7b0 : (t359 == 0) = false := beq_eq_false_iff_ne.mpr c7
       have c7b1 : (t359 != 0) = true := bne_iff_ne.mpr c7
       have H' := A_ H
       clear H
       have p357 : 0 ≤ (x9_1 : Int) := of_decide_eq_true Z13
       have q357 : x9_1 < (l0.length : Int) := of_decide_eq_true Z13
       obtain ⟨ad357, A357_0, c357_0, A357_1, c357_1, e357, hx357_0, hx357_1, hl357_0, hi357_0, hl357_1, hi357_1⟩ := at_T41 HR0.out x9_1 p357 q357
       cases e357
       replace hx357_0 := ZC HB.out hx357_0
       replace hx357_1 := ZC HB.out hx357_1
       have HR357_0 := A_ hi357_0
       have HC357_0 := A_ hl357_0
       clear hi357_0 hl357_0
       have HR357_1 := A_ hi357_1
       have HC357_1 := A_ hl357_1
       clear hi357_1 hl357_1
       replace p357 := eq_true p357
       replace q357 := eq_true q357
       go_wp2_with (first | ((with_reducible refine gate_dst (N := 6) rfl ?_); refine box_event ?hg (N := 6) ?hd (cs := #[.slice none 0 0, .slice none 0 0]) (t := 41) ?hr ?_; (case hd => rfl); (case hg => rfl); (case hr => exact Z24); intro gb358 hg w11 hbox hb; have n0_ := A_ (below_step Z1 hb); have n1_ := A_ (hbox); have n2_ := A_ ((by rw [hg]; exact (below_size Z1) : w.heap.size ≤ gb358)); have n3_ := A_ ((by rw [hg]; exact (below_size Z1) : w.heap.size ≤ gb358)); clear HB; have HB := n0_; have BK358 := n1_; have GW358 := n2_; have GE358 := n3_; clear n0_ n1_ n2_ n3_; clear hb hbox hg; have hcz12_0 : w11.cell? ⟨gb358, 0, none⟩ = some (.slice none 0 0) := (blk_cell BK358.out 0).trans rfl; have hcz12_1 : w11.cell? ⟨gb358, 1, none⟩ = some (.slice none 0 0) := (blk_cell BK358.out 1).trans rfl; have hfz12_0 := blk_frozen BK358.out 0; have hfz12_1 := blk_frozen BK358.out 1) | ((with_reducible refine gate_callee (f := 44) rfl ?_); refine goesL_ (some 17) rfl rfl Try.func44 (by kernel_rfl) rfl #[.slice A357_0 ((rd_T41 l0 x9_1).f0).length c357_0, .slice A1 l1.length c1] rfl Z3 ?_; (with_reducible refine (impl_placeCmp.calls k1 _ _ ((rd_T41 l0 x9_1).f0) _ _ l1 t359 _ ?side1 ?side2 ?side3 ?side4 A6.out).mono ?_); (case side1 => exact Kd.C_below HR357_0.out (Z2 GE358.out)); (case side2 => exact HC357_0.out); (case side3 => exact Kd.C_below HR1.out (Z2 GE358.out)); (case side4 => exact HC1.out); rintro e w13 ⟨rfl, hb⟩; refine ⟨_, rfl, ?_⟩; have n0_ := A_ (blk_below (g := gb358) (o := .cells #[.slice A357_0 ((rd_T41 l0 x9_1).f0).length c357_0, .slice A357_1 ((rd_T41 l0 x9_1).f1).length c357_1] 41 (0, 0)) (by (with_reducible repeat (first | refine blk_drewN ?_ _ | refine blk_drew ?_ | refine blk_alloc ?_ _)); refine blk_put (cs := #[.slice A357_0 ((rd_T41 l0 x9_1).f0).length c357_0, .slice none 0 0]) ?_ 1 _ rfl; (with_reducible repeat (first | refine blk_drewN ?_ _ | refine blk_drew ?_ | refine blk_alloc ?_ _)); refine blk_put (cs := #[.slice none 0 0, .slice none 0 0]) ?_ 0 _ rfl; (with_reducible repeat (first | refine blk_drewN ?_ _ | refine blk_drew ?_ | refine blk_alloc ?_ _)); exact BK358.out) hb); have n1_ := A_ (below_step (Z2 GE358.out) hb); clear BK358; clear HB; have BK358 := n0_; have HB := n1_; clear n0_ n1_; (try clear hb); (try clear hb2); (try clear hk); (try clear hi)))
       go_roundg k1
       case measure => have := HK1.out; omega
       case rel => exact ⟨(wrap64 (x9_1 + 1)), Z21, H', ⟨by have := HK1.out; omega⟩, ⟨Z2 GE358.out⟩⟩
     ·rw [if_neg c5] at H
      exact absurd H (by simp)
    ·rw [if_neg c4] at H
     exact absurd H (by simp)
   ·rw [if_neg c3] at H
    have c3b0 : decide (x9_1 < (l0.length : Int)) = false := decide_eq_false c3
    clear c3
    obtain rfl := Option.some.inj H
    go_wp2
    go_ret
    exact ⟨Z17, Z1⟩
def impl_valsCopy.f (l0 : List (S28)) : Option ((List (S28))) := if ([] : List (S28)).length + l0.length < 4398046511104 then (some (([] : List (S28)) ++ l0)) else (none)
set_option maxHeartbeats 8000000 in
set_option maxRecDepth 100000 in
theorem impl_valsCopy.calls (A0 : Option Addr) (c0 : Nat) (l0 : List (S28)) (r : List (S28)) (w : World) (hr0 : Kd.C k28 w A0 l0.length l0) (hc0 : l0.length ≤ c0) (h : impl_valsCopy.f l0 = some r) :
  Calls Try.prog 47 #[.slice A0 l0.length c0] w fun e w' => ∃ v0_ : Value, e = .returned (v0_) ∧ Kd.R k28 28 w' w.heap.size (fun _ => True) v0_ r ∧ Below w.heap.size w w' := by
 have HR0 := A_ hr0
 have HC0 := A_ hc0
 clear hr0 hc0
 have HB := A_ (Below.refl w.heap.size w)
 have H : (if ([] : List (S28)).length + l0.length < 4398046511104 then (some (([] : List (S28)) ++ l0)) else (none)) = some r := h
 clear h
 by_cases c2 : ([] : List (S28)).length + l0.length < 4398046511104
 ·rw [if_pos c2] at H
  have LMc2 := A_ c2
  clear c2
  obtain ⟨y360, hy360⟩ : ∃ y_ : List (S28), y_ = (([] : List (S28)) ++ l0) := ⟨_, rfl⟩
  replace H : (some y360) = some r := by first | (rw [hy360]; with_reducible exact H) | (have H2_ := (Option.bind_some _ _).symm.trans H; rw [hy360]; with_reducible exact H2_) | (have H2_ := (Option.bind_some _ _).symm.trans H; with_reducible exact H2_) | with_reducible exact H | (rw [hy360]; exact H) | exact H
  have Ny360 := A_ hy360
  clear hy360
  obtain rfl := Option.some.inj H
  go_enter Try.func47, Try.ntmps47
  go_wp2_with (first | ((with_reducible refine gate_builtin (b := .append) (xs := #[.const (.slice none 0 0), .tmp 3]) rfl ?_); at_builtin; refine Kd.R_append_rows k28 (w0 := w) w.heap.size rfl (.const (.slice none 0 0)) (.tmp 3) 36 28 (.agg #[(.int .i64 0), (.int .i64 0), (.string ⟨#[]⟩)]) 32 rfl Try.underlying36 info28 rfl (by decide) (by omega) (.slice none 0 0) ([] : List (S28)) l0 _ _ _ (fun _ => True) (fun _ => False) rfl rfl ?aO ?aR (fun _ _ h => h) (fun _ h => h.elim) ?aF ?aB ?aS ?aL ?_; (case aR => exact Z29 HR0.out); (case aB => exact Z1); (case aF => exact (fun _ _ => trivial)); (case aO => exact ((Kd.R_nil _ _ _ _ (fun _ => True)))); (case aS => exact (below_size Z1)); (case aL => have := LMc2.out; omega); intro v361 w3 ho hb hg hat; rw [← Ny360.out] at ho; have n0_ := A_ (hb); have n1_ := A_ (ho); clear HB; have HB := n0_; have HO362 := n1_; clear n0_ n1_; clear ho hb hg hat))
  go_ret
  exact ⟨_, Z17, Z16 HO362.out, Z1⟩
 ·rw [if_neg c2] at H
  exact absurd H (by simp)
def impl_StoreGet.j0 : Nat → List (S41) → List (S68) → Bool → Option ((List (S28)) × Bool)
 | 0, _, _, _ => none
 | k + 1, x0, x1, x14 => if x14 = true then (some (([] : List (S28)), false)) else ((impl_storeFind.f k x0 x1).bind fun t365 => (if t365 < 0 then (some (([] : List (S28)), false)) else (if 0 ≤ t365 then (if t365 < (x0.length : Int) then ((impl_valsCopy.f ((rd_T41 x0 t365).f1)).bind fun t367 => (some (t367, true))) else (none)) else (none))))
def impl_StoreGet.f (k : Nat) (l0 : List (S41)) (l1 : List (S68)) : Option ((List (S28)) × Bool) := (impl_StoreOk.f k l0).bind fun t363 => (if t363 = true then ((impl_PlaceOk.f k l1).bind fun t364 => (impl_StoreGet.j0 k l0 l1 (!t364))) else (impl_StoreGet.j0 k l0 l1 true))
theorem impl_StoreGet.mono_l : ∀ k, (∀ y0 y1 y2, LeO (impl_StoreGet.j0 k y0 y1 y2) (impl_StoreGet.j0 (k + 1) y0 y1 y2))
 | 0 => fun _ _ _ r h => by simp [impl_StoreGet.j0] at h
 | k + 1 => by
  have ih0 := impl_StoreGet.mono_l k
  ·intro y0 y1 y2
   unfold impl_StoreGet.j0
   repeat' first
   | (with_reducible exact ih0 _ _ _)
   | (with_reducible exact impl_PlaceOk.mono _ _)
   | (with_reducible exact impl_StoreOk.mono _ _)
   | (with_reducible exact impl_storeFind.mono _ _ _)
   | (with_reducible exact LeO.refl _)
   | (with_reducible exact LeO.none _)
   | (with_reducible refine LeO.ite ?_ ?_)
   | (with_reducible refine LeO.bind ?_ (fun _ => ?_))
   | exact ih0 _ _ _
   | exact impl_PlaceOk.mono _ _
   | exact impl_StoreOk.mono _ _
   | exact impl_storeFind.mono _ _ _
   | exact LeO.none _
   | refine LeO.ite ?_ ?_
   | refine LeO.bind ?_ (fun _ => ?_)
theorem impl_StoreGet.mono : ∀ a0 a1 k, LeO (impl_StoreGet.f k a0 a1) (impl_StoreGet.f (k + 1) a0 a1) := by
 intro a0 a1 k
 have ih0 := impl_StoreGet.mono_l k
 unfold impl_StoreGet.f
 repeat' first
   | (with_reducible exact ih0 _ _ _)
   | (with_reducible exact impl_PlaceOk.mono _ _)
   | (with_reducible exact impl_StoreOk.mono _ _)
   | (with_reducible exact impl_storeFind.mono _ _ _)
   | (with_reducible exact LeO.refl _)
   | (with_reducible exact LeO.none _)
   | (with_reducible refine LeO.ite ?_ ?_)
   | (with_reducible refine LeO.bind ?_ (fun _ => ?_))
   | exact ih0 _ _ _
   | exact impl_PlaceOk.mono _ _
   | exact impl_StoreOk.mono _ _
   | exact impl_storeFind.mono _ _ _
   | exact LeO.none _
   | refine LeO.ite ?_ ?_
   | refine LeO.bind ?_ (fun _ => ?_)
set_option maxHeartbeats 8000000 in
set_option maxRecDepth 100000 in
theorem impl_StoreGet.calls (k : Nat) (A0 : Option Addr) (c0 : Nat) (l0 : List (S41)) (A1 : Option Addr) (c1 : Nat) (l1 : List (S68)) (r1 : List (S28)) (r2 : Bool) (w : World) (hr0 : Kd.C k41 w A0 l0.length l0) (hc0 : l0.length ≤ c0) (hr1 : Kd.C k68 w A1 l1.length l1) (hc1 : l1.length ≤ c1) (h : impl_StoreGet.f k l0 l1 = some (r1, r2)) :
  Calls Try.prog 18 #[.slice A0 l0.length c0, .slice A1 l1.length c1] w fun e w' => ∃ v0_ : Value, e = .returned (.tuple #[v0_, .bool r2]) ∧ Kd.R k28 28 w' w.heap.size (fun _ => True) v0_ r1 ∧ Below w.heap.size w w' := by
 have HR0 := A_ hr0
 have HC0 := A_ hc0
 clear hr0 hc0
 have HR1 := A_ hr1
 have HC1 := A_ hc1
 clear hr1 hc1
 have HB := A_ (Below.refl w.heap.size w)
 have H : ((impl_StoreOk.f k l0).bind fun t363 => (if t363 = true then ((impl_PlaceOk.f k l1).bind fun t364 => (impl_StoreGet.j0 k l0 l1 (!t364))) else (impl_StoreGet.j0 k l0 l1 true))) = some (r1, r2) := h
 clear h
 have HC3 := A_ H
 clear H
 go_enter Try.func18, Try.ntmps18
 go_upto_region 1 with (fail)
 go_cut [14] (fun v14 wc => ∃ (kq : Nat) (x14_2 : Bool), v14 = .bool x14_2 ∧ Aside0 (impl_StoreGet.j0 kq l0 l1 x14_2 = some (r1, r2)) ∧ Aside0 (kq ≤ k) ∧ Aside0 (Below w.heap.size w wc))
 case first =>
  have H := HC3.out
  clear HC3
  replace H := Option.bind_eq_some_iff.mp H
  obtain ⟨t363, A40, H⟩ := H
  replace H : (if t363 = true then ((impl_PlaceOk.f k l1).bind fun t364 => (impl_StoreGet.j0 k l0 l1 (!t364))) else (impl_StoreGet.j0 k l0 l1 true)) = some (r1, r2) := H
  have A4 := A_ A40
  clear A40
  by_cases c5 : t363 = true
  ·subst c5
   have H1 : ((impl_PlaceOk.f k l1).bind fun t364 => (impl_StoreGet.j0 k l0 l1 (!t364))) = some (r1, r2) := by rw [if_pos rfl] at H; exact H
   clear H
   have H := H1
   clear H1
   replace H := Option.bind_eq_some_iff.mp H
   obtain ⟨t364, A60, H⟩ := H
   replace H : (impl_StoreGet.j0 k l0 l1 (!t364)) = some (r1, r2) := H
   have A6 := A_ A60
   clear A60
   have H' := A_ H
   clear H
   go_wp2_with (first | ((with_reducible refine gate_callee (f := 16) rfl ?_); refine goesL_ (some 8) rfl rfl Try.func16 (by kernel_rfl) rfl #[.slice A0 l0.length c0] rfl Z3 ?_; (with_reducible refine (impl_StoreOk.calls k _ _ l0 true _ ?side1 ?side2 A4.out).mono ?_); (case side1 => exact Z12 HR0.out); (case side2 => exact HC0.out); rintro e w7 ⟨rfl, hb⟩; refine ⟨_, rfl, ?_⟩; have n0_ := A_ (below_step Z1 hb); clear HB; have HB := n0_; clear n0_; (try clear hb); (try clear hb2); (try clear hk); (try clear hi)) | (go_at_call 24; (with_reducible refine (impl_PlaceOk.calls k _ _ l1 t364 _ ?side1 ?side2 A6.out).mono ?_); (case side1 => exact Z12 HR1.out); (case side2 => exact HC1.out); rintro e w8 ⟨rfl, hb⟩; have n0_ := A_ (below_step Z1 hb); clear HB; have HB := n0_; clear n0_; (try clear hb); (try clear hb2); (try clear hk); (try clear hi)))
   go_meet
   case rel => exact ⟨_, (!t364), Z21, H', ⟨by first | omega | exact Nat.le_refl _⟩, ⟨Z1⟩⟩
  ·replace c5 := Bool.eq_false_iff.mpr c5
   subst c5
   have H1 : (impl_StoreGet.j0 k l0 l1 true) = some (r1, r2) := by rw [if_neg (show ¬ (false = true) by decide)] at H; exact H
   clear H
   have H := H1
   clear H1
   have H' := A_ H
   clear H
   go_wp2_with (first | ((with_reducible refine gate_callee (f := 16) rfl ?_); refine goesL_ (some 8) rfl rfl Try.func16 (by kernel_rfl) rfl #[.slice A0 l0.length c0] rfl Z3 ?_; (with_reducible refine (impl_StoreOk.calls k _ _ l0 false _ ?side1 ?side2 A4.out).mono ?_); (case side1 => exact Z12 HR0.out); (case side2 => exact HC0.out); rintro e w9 ⟨rfl, hb⟩; refine ⟨_, rfl, ?_⟩; have n0_ := A_ (below_step Z1 hb); clear HB; have HB := n0_; clear n0_; (try clear hb); (try clear hb2); (try clear hk); (try clear hi)))
   go_meet
   case rel => exact ⟨_, (true), Z21, H', ⟨by first | omega | exact Nat.le_refl _⟩, ⟨Z1⟩⟩
 case rest =>
  clear HC3
  try clear c1
  try clear p2
  try clear c5
  obtain ⟨kq, x14_2, rfl, HA, HJ2, HB⟩ := hcut
  cases kq with
  | zero => exact absurd HA.out (by simp [impl_StoreGet.j0])
  | succ kj2 =>
   have H := HA.out
   clear HA
   simp only [impl_StoreGet.j0] at H
   by_cases c10 : x14_2 = true
   ·subst c10
    have H1 : (some (([] : List (S28)), false)) = some (r1, r2) := by rw [if_pos rfl] at H; exact H
    clear H
    have H := H1
    clear H1
    simp only [Option.some.injEq, Prod.mk.injEq] at H
    obtain ⟨rfl, rfl⟩ := H
    go_wp2
    go_ret2
    exact ⟨_, Z17, by first | exact Kd.R_nil _ _ _ _ _ | exact Kd.N_nil _ _ _ _ _ | exact Kd.V_nil _ _ _ _ _ | exact Kd.Q_nil _ _ _ _ _ | exact Kd.S_nil _ _ _ _ _, Z1⟩
   ·replace c10 := Bool.eq_false_iff.mpr c10
    subst c10
    have H1 : ((impl_storeFind.f kj2 l0 l1).bind fun t365 => (if t365 < 0 then (some (([] : List (S28)), false)) else (if 0 ≤ t365 then (if t365 < (l0.length : Int) then ((impl_valsCopy.f ((rd_T41 l0 t365).f1)).bind fun t367 => (some (t367, true))) else (none)) else (none)))) = some (r1, r2) := by rw [if_neg (show ¬ (false = true) by decide)] at H; exact H
    clear H
    have H := H1
    clear H1
    replace H := Option.bind_eq_some_iff.mp H
    obtain ⟨t365, A110, H⟩ := H
    replace H : (if t365 < 0 then (some (([] : List (S28)), false)) else (if 0 ≤ t365 then (if t365 < (l0.length : Int) then ((impl_valsCopy.f ((rd_T41 l0 t365).f1)).bind fun t367 => (some (t367, true))) else (none)) else (none))) = some (r1, r2) := H
    have A11 := A_ A110
    clear A110
    by_cases c12 : t365 < 0
    ·rw [if_pos c12] at H
     have c12b0 : decide (t365 < 0) = true := decide_eq_true c12
     clear c12
     simp only [Option.some.injEq, Prod.mk.injEq] at H
     obtain ⟨rfl, rfl⟩ := H
     go_wp2_with (first | ((with_reducible refine gate_callee (f := 46) rfl ?_); refine goesL_ (some 17) rfl rfl Try.func46 (by kernel_rfl) rfl #[.slice A0 l0.length c0, .slice A1 l1.length c1] rfl Z3 ?_; (with_reducible refine (impl_storeFind.calls kj2 _ _ l0 _ _ l1 t365 _ ?side1 ?side2 ?side3 ?side4 A11.out).mono ?_); (case side1 => exact Z12 HR0.out); (case side2 => exact HC0.out); (case side3 => exact Z12 HR1.out); (case side4 => exact HC1.out); rintro e w13 ⟨rfl, hb⟩; refine ⟨_, rfl, ?_⟩; have n0_ := A_ (below_step Z1 hb); clear HB; have HB := n0_; clear n0_; (try clear hb); (try clear hb2); (try clear hk); (try clear hi)))
     go_ret2
     exact ⟨_, Z17, by first | exact Kd.R_nil _ _ _ _ _ | exact Kd.N_nil _ _ _ _ _ | exact Kd.V_nil _ _ _ _ _ | exact Kd.Q_nil _ _ _ _ _ | exact Kd.S_nil _ _ _ _ _, Z1⟩
    ·rw [if_neg c12] at H
     have c12b0 : decide (t365 < 0) = false := decide_eq_false c12
     clear c12
     by_cases c14 : 0 ≤ t365
     ·rw [if_pos c14] at H
      have c14b0 : decide (0 ≤ t365) = true := decide_eq_true c14
      clear c14
      by_cases c15 : t365 < (l0.length : Int)
      ·rw [if_pos c15] at H
       have c15b0 : decide (t365 < (l0.length : Int)) = true := decide_eq_true c15
       clear c15
       replace H := Option.bind_eq_some_iff.mp H
       obtain ⟨t367, A160, H⟩ := H
       replace H : (some (t367, true)) = some (r1, r2) := H
       have A16 := A_ A160
       clear A160
       simp only [Option.some.injEq, Prod.mk.injEq] at H
       obtain ⟨rfl, rfl⟩ := H
       go_wp2_with (first | ((with_reducible refine gate_callee (f := 46) rfl ?_); refine goesL_ (some 17) rfl rfl Try.func46 (by kernel_rfl) rfl #[.slice A0 l0.length c0, .slice A1 l1.length c1] rfl Z3 ?_; (with_reducible refine (impl_storeFind.calls kj2 _ _ l0 _ _ l1 t365 _ ?side1 ?side2 ?side3 ?side4 A11.out).mono ?_); (case side1 => exact Z12 HR0.out); (case side2 => exact HC0.out); (case side3 => exact Z12 HR1.out); (case side4 => exact HC1.out); rintro e w17 ⟨rfl, hb⟩; refine ⟨_, rfl, ?_⟩; have n0_ := A_ (below_step Z1 hb); clear HB; have HB := n0_; clear n0_; (try clear hb); (try clear hb2); (try clear hk); (try clear hi); have p366 : 0 ≤ (t365 : Int) := of_decide_eq_true Z13; have q366 : t365 < (l0.length : Int) := of_decide_eq_true Z13; obtain ⟨ad366, A366_0, c366_0, A366_1, c366_1, e366, hx366_0, hx366_1, hl366_0, hi366_0, hl366_1, hi366_1⟩ := at_T41 HR0.out t365 p366 q366; cases e366; replace hx366_0 := ZC HB.out hx366_0; replace hx366_1 := ZC HB.out hx366_1; have HR366_0 := A_ hi366_0; have HC366_0 := A_ hl366_0; clear hi366_0 hl366_0; have HR366_1 := A_ hi366_1; have HC366_1 := A_ hl366_1; clear hi366_1 hl366_1; replace p366 := eq_true p366; replace q366 := eq_true q366) | ((with_reducible refine gate_callee (f := 47) rfl ?_); refine goesL_ (some 25) rfl rfl Try.func47 (by kernel_rfl) rfl #[.slice A366_1 ((rd_T41 l0 t365).f1).length c366_1] rfl Z3 ?_; (with_reducible refine (impl_valsCopy.calls _ _ ((rd_T41 l0 t365).f1) t367 _ ?side1 ?side2 A16.out).mono ?_); (case side1 => exact Z12 HR366_1.out); (case side2 => exact HC366_1.out); rintro e w18 ⟨v368, rfl, ho0, hb⟩; refine ⟨_, rfl, ?_⟩; have n0_ := A_ (Kd.R_lower ho0 (below_size Z1)); have n1_ := A_ (below_step Z1 hb); clear HB; have HO369 := n0_; have HB := n1_; clear n0_ n1_; (try clear hb); (try clear hb2); (try clear hk); (try clear hi); (try clear ho0)))
       go_ret2
       exact ⟨_, Z17, Z16 HO369.out, Z1⟩
      ·rw [if_neg c15] at H
       exact absurd H (by simp)
     ·rw [if_neg c14] at H
      exact absurd H (by simp)
def spec_sameValues.l0 : Nat → List (S28) → List (S28) → Int → Option (Bool)
 | 0, _, _, _ => none
 | k + 1, x0, x1, x5 => if x5 < (x0.length : Int) then (if 0 ≤ x5 then (if x5 < (x1.length : Int) then (if (!(((rd_T28 x0 x5).f0) == ((rd_T28 x1 x5).f0)) || (!(((rd_T28 x0 x5).f1) == ((rd_T28 x1 x5).f1)) || (!((((rd_T28 x0 x5).f2).toList) == (((rd_T28 x1 x5).f2).toList))))) = true then (some false) else (spec_sameValues.l0 k x0 x1 (wrap64 (x5 + 1)))) else (none)) else (none)) else (some true)
def spec_sameValues.f (k : Nat) (l0 : List (S28)) (l1 : List (S28)) : Option (Bool) := if (l0.length : Int) = (l1.length : Int) then (spec_sameValues.l0 k l0 l1 0) else (some false)
theorem spec_sameValues.mono_l : ∀ k, (∀ y0 y1 y2, LeO (spec_sameValues.l0 k y0 y1 y2) (spec_sameValues.l0 (k + 1) y0 y1 y2))
 | 0 => fun _ _ _ r h => by simp [spec_sameValues.l0] at h
 | k + 1 => by
  have ih0 := spec_sameValues.mono_l k
  ·intro y0 y1 y2
   unfold spec_sameValues.l0
   repeat' first
   | (with_reducible exact ih0 _ _ _)
   | (with_reducible exact LeO.refl _)
   | (with_reducible exact LeO.none _)
   | (with_reducible refine LeO.ite ?_ ?_)
   | (with_reducible refine LeO.bind ?_ (fun _ => ?_))
   | exact ih0 _ _ _
   | exact LeO.none _
   | refine LeO.ite ?_ ?_
   | refine LeO.bind ?_ (fun _ => ?_)
theorem spec_sameValues.mono : ∀ a0 a1 k, LeO (spec_sameValues.f k a0 a1) (spec_sameValues.f (k + 1) a0 a1) := by
 intro a0 a1 k
 have ih0 := spec_sameValues.mono_l k
 unfold spec_sameValues.f
 repeat' first
   | (with_reducible exact ih0 _ _ _)
   | (with_reducible exact LeO.refl _)
   | (with_reducible exact LeO.none _)
   | (with_reducible refine LeO.ite ?_ ?_)
   | (with_reducible refine LeO.bind ?_ (fun _ => ?_))
   | exact ih0 _ _ _
   | exact LeO.none _
   | refine LeO.ite ?_ ?_
   | refine LeO.bind ?_ (fun _ => ?_)
set_option maxHeartbeats 8000000 in
set_option maxRecDepth 100000 in
theorem spec_sameValues.calls (k : Nat) (A0 : Option Addr) (c0 : Nat) (l0 : List (S28)) (A1 : Option Addr) (c1 : Nat) (l1 : List (S28)) (r : Bool) (w : World) (hr0 : Kd.C k28 w A0 l0.length l0) (hc0 : l0.length ≤ c0) (hr1 : Kd.C k28 w A1 l1.length l1) (hc1 : l1.length ≤ c1) (h : spec_sameValues.f k l0 l1 = some r) :
  Calls Try.prog 48 #[.slice A0 l0.length c0, .slice A1 l1.length c1] w fun e w' => e = .returned (.bool r) ∧ Drawn0 w w' := by
 have hu28 := Try.underlying28
 have HR0 := A_ hr0
 have HC0 := A_ hc0
 clear hr0 hc0
 have HR1 := A_ hr1
 have HC1 := A_ hc1
 clear hr1 hc1
 have H : (if (l0.length : Int) = (l1.length : Int) then (spec_sameValues.l0 k l0 l1 0) else (some false)) = some r := h
 clear h
 by_cases c3 : (l0.length : Int) = (l1.length : Int)
 ·rw [if_pos c3] at H
  have c3b0 : ((l0.length : Int) == (l1.length : Int)) = true := beq_iff_eq.mpr c3
  have c3b1 : ((l0.length : Int) != (l1.length : Int)) = false := bne_eq_false_iff_eq.mpr c3
  have c3b2 : (l0.length == l1.length) = true := by first | simpa using c3 | (simp at c3 ⊢; omega)
  clear c3
  have H' := A_ H
  clear H
  go_enter Try.func48, Try.ntmps48
  go_wp2
  repeat (go_quiet (fail); try go_wp2)
  go_loopg [5] k (fun kq v5 w' => ∃ (x5_1 : Int), v5 = .int .i64 x5_1 ∧ Aside0 (spec_sameValues.l0 kq l0 l1 x5_1 = some r) ∧ Aside0 (kq ≤ k) ∧ Drawn0 w w')
  case atStart => exact ⟨(0), Z21, H', ⟨Nat.le_refl _⟩, Z25⟩
  case round =>
   clear H'
   try clear c1
   try clear p2
   try clear c3
   try clear c3b0
   try clear c3b1
   try clear c3b2
   obtain ⟨x5_1, rfl, HA, HK1, ⟨m1, rfl⟩⟩ := hrel
   cases gk with
   | zero => exact absurd HA.out (by simp [spec_sameValues.l0])
   | succ k1 =>
    have H := HA.out
    clear HA
    simp only [spec_sameValues.l0] at H
    by_cases c4 : x5_1 < (l0.length : Int)
    ·rw [if_pos c4] at H
     have c4b0 : decide (x5_1 < (l0.length : Int)) = true := decide_eq_true c4
     clear c4
     by_cases c5 : 0 ≤ x5_1
     ·rw [if_pos c5] at H
      have c5b0 : decide (0 ≤ x5_1) = true := decide_eq_true c5
      clear c5
      by_cases c6 : x5_1 < (l1.length : Int)
      ·rw [if_pos c6] at H
       have c6b0 : decide (x5_1 < (l1.length : Int)) = true := decide_eq_true c6
       clear c6
       by_cases c7 : (!(((rd_T28 l0 x5_1).f0) == ((rd_T28 l1 x5_1).f0)) || (!(((rd_T28 l0 x5_1).f1) == ((rd_T28 l1 x5_1).f1)) || (!((((rd_T28 l0 x5_1).f2).toList) == (((rd_T28 l1 x5_1).f2).toList))))) = true
       ·rw [if_pos c7] at H
        have c7b0 : (!(((rd_T28 l0 x5_1).f0) == ((rd_T28 l1 x5_1).f0)) || (!(((rd_T28 l0 x5_1).f1) == ((rd_T28 l1 x5_1).f1)) || (!((((rd_T28 l0 x5_1).f2).toList) == (((rd_T28 l1 x5_1).f2).toList))))) = true := c7
        clear c7
        obtain rfl := Option.some.inj H
        have p370 : 0 ≤ (x5_1 : Int) := of_decide_eq_true Z13
        have q370 : x5_1 < (l0.length : Int) := of_decide_eq_true Z13
        obtain ⟨ad370, e370, hx370_0, hx370_1, hx370_2⟩ := at_T28 HR0.out x5_1 p370 q370
        cases e370
        replace p370 := eq_true p370
        replace q370 := eq_true q370
        have p371 : 0 ≤ (x5_1 : Int) := of_decide_eq_true Z13
        have q371 : x5_1 < (l1.length : Int) := of_decide_eq_true Z13
        obtain ⟨ad371, e371, hx371_0, hx371_1, hx371_2⟩ := at_T28 HR1.out x5_1 p371 q371
        cases e371
        replace p371 := eq_true p371
        replace q371 := eq_true q371
        go_wp2
        repeat (go_quiet (fail); try go_wp2)
        go_ret
        exact ⟨Z21, Z25⟩
       ·rw [if_neg c7] at H
        have c7b0 : (!(((rd_T28 l0 x5_1).f0) == ((rd_T28 l1 x5_1).f0)) || (!(((rd_T28 l0 x5_1).f1) == ((rd_T28 l1 x5_1).f1)) || (!((((rd_T28 l0 x5_1).f2).toList) == (((rd_T28 l1 x5_1).f2).toList))))) = false := by simpa using c7
        clear c7
        have H' := A_ H
        clear H
        have p370 : 0 ≤ (x5_1 : Int) := of_decide_eq_true Z13
        have q370 : x5_1 < (l0.length : Int) := of_decide_eq_true Z13
        obtain ⟨ad370, e370, hx370_0, hx370_1, hx370_2⟩ := at_T28 HR0.out x5_1 p370 q370
        cases e370
        replace p370 := eq_true p370
        replace q370 := eq_true q370
        have p371 : 0 ≤ (x5_1 : Int) := of_decide_eq_true Z13
        have q371 : x5_1 < (l1.length : Int) := of_decide_eq_true Z13
        obtain ⟨ad371, e371, hx371_0, hx371_1, hx371_2⟩ := at_T28 HR1.out x5_1 p371 q371
        cases e371
        replace p371 := eq_true p371
        replace q371 := eq_true q371
        go_wp2
        repeat (go_quiet (fail); try go_wp2)
        go_roundg k1
        case measure => have := HK1.out; omega
        case rel => exact ⟨(wrap64 (x5_1 + 1)), Z21, H', ⟨by have := HK1.out; omega⟩, Z25⟩
      ·rw [if_neg c6] at H
       exact absurd H (by simp)
     ·rw [if_neg c5] at H
      exact absurd H (by simp)
    ·rw [if_neg c4] at H
     have c4b0 : decide (x5_1 < (l0.length : Int)) = false := decide_eq_false c4
     clear c4
     obtain rfl := Option.some.inj H
     go_wp2
     repeat (go_quiet (fail); try go_wp2)
     go_ret
     exact ⟨Z21, Z25⟩
 ·rw [if_neg c3] at H
  have c3b0 : ((l0.length : Int) == (l1.length : Int)) = false := beq_eq_false_iff_ne.mpr c3
  have c3b1 : ((l0.length : Int) != (l1.length : Int)) = true := bne_iff_ne.mpr c3
  have c3b2 : (l0.length == l1.length) = false := by first | simpa using c3 | (simp at c3 ⊢; omega)
  obtain rfl := Option.some.inj H
  go_enter Try.func48, Try.ntmps48
  go_wp2
  repeat (go_quiet (fail); try go_wp2)
  go_ret
  exact ⟨Z21, Z25⟩
def spec_SameVals.f (k : Nat) (l0 : List (S28)) (l1 : List (S28)) : Option (Bool) := (spec_sameValues.f k l0 l1).bind fun t372 => (some t372)
theorem spec_SameVals.mono : ∀ a0 a1 k, LeO (spec_SameVals.f k a0 a1) (spec_SameVals.f (k + 1) a0 a1) := by
 intro a0 a1 k
 unfold spec_SameVals.f
 repeat' first
   | (with_reducible exact spec_sameValues.mono _ _ _)
   | (with_reducible exact LeO.refl _)
   | (with_reducible exact LeO.none _)
   | (with_reducible refine LeO.ite ?_ ?_)
   | (with_reducible refine LeO.bind ?_ (fun _ => ?_))
   | exact spec_sameValues.mono _ _ _
   | exact LeO.none _
   | refine LeO.ite ?_ ?_
   | refine LeO.bind ?_ (fun _ => ?_)
set_option maxHeartbeats 8000000 in
set_option maxRecDepth 100000 in
theorem spec_SameVals.calls (k : Nat) (A0 : Option Addr) (c0 : Nat) (l0 : List (S28)) (A1 : Option Addr) (c1 : Nat) (l1 : List (S28)) (r : Bool) (w : World) (hr0 : Kd.C k28 w A0 l0.length l0) (hc0 : l0.length ≤ c0) (hr1 : Kd.C k28 w A1 l1.length l1) (hc1 : l1.length ≤ c1) (h : spec_SameVals.f k l0 l1 = some r) :
  Calls Try.prog 19 #[.slice A0 l0.length c0, .slice A1 l1.length c1] w fun e w' => e = .returned (.bool r) ∧ Drawn0 w w' := by
 have HR0 := A_ hr0
 have HC0 := A_ hc0
 clear hr0 hc0
 have HR1 := A_ hr1
 have HC1 := A_ hc1
 clear hr1 hc1
 have H : ((spec_sameValues.f k l0 l1).bind fun t372 => (some t372)) = some r := h
 clear h
 replace H := Option.bind_eq_some_iff.mp H
 obtain ⟨t372, A30, H⟩ := H
 replace H : (some t372) = some r := H
 have A3 := A_ A30
 clear A30
 obtain rfl := Option.some.inj H
 go_enter Try.func19, Try.ntmps19
 go_wp2_with (first | ((with_reducible refine gate_callee (f := 48) rfl ?_); refine goesL_ (some 7) rfl rfl Try.func48 (by kernel_rfl) rfl #[.slice A0 l0.length c0, .slice A1 l1.length c1] rfl Z3 ?_; (with_reducible refine (spec_sameValues.calls k _ _ l0 _ _ l1 t372 _ ?side1 ?side2 ?side3 ?side4 A3.out).mono ?_); (case side1 => exact Z29 HR0.out); (case side2 => exact HC0.out); (case side3 => exact Z29 HR1.out); (case side4 => exact HC1.out); rintro e w' ⟨rfl, ⟨nd, rfl⟩⟩; refine ⟨_, rfl, ?_⟩))
 go_ret
 exact ⟨Z21, Z25⟩
end Go.Proofs.Ytheifobeaemegaa.PFnStoreOk
