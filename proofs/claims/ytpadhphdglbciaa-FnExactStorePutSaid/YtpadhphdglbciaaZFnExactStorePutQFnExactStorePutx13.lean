/- Walks of the functions that the law 'FnExactStorePut' reaches, part 13: for each a Lean function and the proof that Go's comes to just its answer (lines of the print, under own names; no condition). -/
import Derived.Test.YtpadhphdglbciaaZFnExactStorePutQFnExactStorePutx0
import Derived.Test.YtpadhphdglbciaaZFnExactStorePutQFnExactStorePutx10
import Derived.Test.YtpadhphdglbciaaZFnExactStorePutQFnExactStorePutx11
import Derived.Test.YtpadhphdglbciaaZFnExactStorePutQFnExactStorePutx12
namespace Go.Proofs.Ytpadhphdglbciaa.PFnExactStorePut
open Go.RowKit Go.Proofs.YtpadhphdglbciaaW.PrintWords Go.Proofs.YtpadhphdglbciaaW.PrintLast Go.Proofs.YtpadhphdglbciaaW.PrintMore
attribute [local go_sem] max2_int min2_int max_two min_two max_three min_three max_four min_four
set_option linter.unusedVariables false
set_option linter.unusedSimpArgs false
def impl_StoreOk.l0 : Nat → List (S89) → List (S89) → Int → Int → Option (Bool)
 | 0, _, _, _, _ => none
 | k + 1, x0, x5, x6, x7 => if x7 < x6 then (if 0 ≤ x7 then (if x7 < (x5.length : Int) then ((impl_PlaceOk.f k ((rd_T89 x5 x7).f0)).bind fun t305 => (if t305 = true then (if (((rd_T89 x5 x7).f1).length : Int) > 3 then (some false) else ((impl_valsOk.f k ((rd_T89 x5 x7).f1)).bind fun t306 => (if t306 = true then (if x7 > 0 then (if 0 ≤ (wrap64 (x7 - 1)) then (if (wrap64 (x7 - 1)) < (x0.length : Int) then ((impl_placeCmp.f k ((rd_T89 x0 (wrap64 (x7 - 1))).f0) ((rd_T89 x5 x7).f0)).bind fun t308 => (if t308 ≥ 0 then (some false) else (impl_StoreOk.l0 k x0 x5 x6 (wrap64 (x7 + 1))))) else (none)) else (none)) else (impl_StoreOk.l0 k x0 x5 x6 (wrap64 (x7 + 1)))) else (some false)))) else (some false))) else (none)) else (none)) else (some (decide ((x0.length : Int) ≤ 200)))
def impl_StoreOk.f (k : Nat) (l0 : List (S89)) : Option (Bool) := impl_StoreOk.l0 k l0 l0 (l0.length : Int) 0
theorem impl_StoreOk.mono_l : ∀ k, (∀ y0 y1 y2 y3, LeO (impl_StoreOk.l0 k y0 y1 y2 y3) (impl_StoreOk.l0 (k + 1) y0 y1 y2 y3))
 | 0 => fun _ _ _ _ r h => by simp [impl_StoreOk.l0] at h
 | k + 1 => by
  have ih0 := impl_StoreOk.mono_l k
  ·intro y0 y1 y2 y3
   unfold impl_StoreOk.l0
   repeat' first
   | (with_reducible exact ih0 _ _ _ _)
   | (with_reducible exact impl_PlaceOk.mono _ _)
   | (with_reducible exact impl_placeCmp.mono _ _ _)
   | (with_reducible exact impl_valsOk.mono _ _)
   | (with_reducible exact LeO.refl _)
   | (with_reducible exact LeO.none _)
   | (with_reducible refine LeO.ite ?_ ?_)
   | (with_reducible refine LeO.bind ?_ (fun _ => ?_))
   | exact ih0 _ _ _ _
   | exact impl_PlaceOk.mono _ _
   | exact impl_placeCmp.mono _ _ _
   | exact impl_valsOk.mono _ _
   | exact LeO.none _
   | refine LeO.ite ?_ ?_
   | refine LeO.bind ?_ (fun _ => ?_)
theorem impl_StoreOk.mono : ∀ a0 k, LeO (impl_StoreOk.f k a0) (impl_StoreOk.f (k + 1) a0) := by
 intro a0 k
 have ih0 := impl_StoreOk.mono_l k
 unfold impl_StoreOk.f
 repeat' first
   | (with_reducible exact ih0 _ _ _ _)
   | (with_reducible exact impl_PlaceOk.mono _ _)
   | (with_reducible exact impl_placeCmp.mono _ _ _)
   | (with_reducible exact impl_valsOk.mono _ _)
   | (with_reducible exact LeO.refl _)
   | (with_reducible exact LeO.none _)
   | (with_reducible refine LeO.ite ?_ ?_)
   | (with_reducible refine LeO.bind ?_ (fun _ => ?_))
   | exact ih0 _ _ _ _
   | exact impl_PlaceOk.mono _ _
   | exact impl_placeCmp.mono _ _ _
   | exact impl_valsOk.mono _ _
   | exact LeO.none _
   | refine LeO.ite ?_ ?_
   | refine LeO.bind ?_ (fun _ => ?_)
def impl_StoreOk.T4 : Bool × List (List Nat × List Nat) := (true, [([], []), ([0], [0]), ([1], [1]), ([2], [2]), ([3, 2], [3]), ([4], [4]), ([5, 4], [4, 5]), ([6, 4], [4, 6]), ([7, 4], [4, 7]), ([4, 8], [4, 8]), ([9, 4], [9]), ([10], [10]), ([11, 10], [10, 11]), ([12, 10, 10], [10, 12]), ([13, 10], [10, 13]), ([10, 14], [10, 14]), ([15, 13], [15]), ([16], [16]), ([17, 16], [16, 17]), ([18, 16, 16], [16, 18]), ([19], [19]), ([19], [19]), ([21, 19], [19, 21]), ([20, 22, 19], [19, 20, 22]), ([23, 19], [19, 23]), ([24, 19], [19, 24]), ([19], [19]), ([26, 19], [19, 26]), ([25, 27, 19, 19], [19, 25, 27]), ([28, 19], [19, 28]), ([19, 29, 16], [16, 19, 29]), ([16, 30], [16, 30])])
def impl_StoreOk.B4 : List Nat := [0, 1, 3, 7, 15, 31, 63, 127, 255, 511, 1023, 2047, 4095, 8191, 16383, 32767, 65535, 131071, 262143, 524287, 1048575, 1048575, 3145727, 8388607, 16777215, 33554431, 1048575, 68157439, 268435455, 536870911, 1073741823, 2147483647]
theorem impl_StoreOk.tab4 : rtab .any (opsOf Try.f63 4) = impl_StoreOk.T4 := by kernel_rfl
theorem impl_StoreOk.bits4 : waitsOk impl_StoreOk.T4.2 impl_StoreOk.B4 = true := by kernel_rfl
set_option maxHeartbeats 8000000 in
set_option maxRecDepth 100000 in
theorem impl_StoreOk.calls (k : Nat) (A0 : Option Addr) (c0 : Nat) (l0 : List (S89)) (r : Bool) (w : World) (hr0 : Kd.C k89 w A0 l0.length l0) (hc0 : l0.length ≤ c0) (h : impl_StoreOk.f k l0 = some r) :
  Calls Try.prog 63 #[.slice A0 l0.length c0] w fun e w' => e = .returned (.bool r) ∧ Below w.heap.size w w' := by
 have hu89 := Try.underlying89
 have HR0 := A_ hr0
 have HC0 := A_ hc0
 clear hr0 hc0
 have HB := A_ (Below.refl w.heap.size w)
 have H : (impl_StoreOk.l0 k l0 l0 (l0.length : Int) 0) = some r := h
 clear h
 have H' := A_ H
 clear H
 go_enter Try.func63, Try.ntmps63
 go_wp2
 go_loopg [7] k (fun kq v7 w' => ∃ (x7_1 : Int), v7 = .int .i64 x7_1 ∧ Aside0 (impl_StoreOk.l0 kq l0 l0 (l0.length : Int) x7_1 = some r) ∧ Aside0 (kq ≤ k) ∧ Aside0 (Below w.heap.size w w'))
 case atStart => exact ⟨(0), Z17, H', ⟨Nat.le_refl _⟩, ⟨Z0⟩⟩
 case round =>
  clear H'
  obtain ⟨x7_1, rfl, HA, HK1, HB⟩ := hrel
  cases gk with
  | zero => exact absurd HA.out (by simp [impl_StoreOk.l0])
  | succ k1 =>
   have H := HA.out
   clear HA
   simp only [impl_StoreOk.l0] at H
   by_cases c2 : x7_1 < (l0.length : Int)
   ·rw [if_pos c2] at H
    have c2b0 : decide (x7_1 < (l0.length : Int)) = true := decide_eq_true c2
    clear c2
    by_cases c3 : 0 ≤ x7_1
    ·rw [if_pos c3] at H
     have c3b0 : decide (0 ≤ x7_1) = true := decide_eq_true c3
     clear c3
     by_cases c4 : x7_1 < (l0.length : Int)
     ·rw [if_pos c4] at H
      have c4b0 : decide (x7_1 < (l0.length : Int)) = true := decide_eq_true c4
      clear c4
      replace H := Option.bind_eq_some_iff.mp H
      obtain ⟨t305, A50, H⟩ := H
      replace H : (if t305 = true then (if (((rd_T89 l0 x7_1).f1).length : Int) > 3 then (some false) else ((impl_valsOk.f k1 ((rd_T89 l0 x7_1).f1)).bind fun t306 => (if t306 = true then (if x7_1 > 0 then (if 0 ≤ (wrap64 (x7_1 - 1)) then (if (wrap64 (x7_1 - 1)) < (l0.length : Int) then ((impl_placeCmp.f k1 ((rd_T89 l0 (wrap64 (x7_1 - 1))).f0) ((rd_T89 l0 x7_1).f0)).bind fun t308 => (if t308 ≥ 0 then (some false) else (impl_StoreOk.l0 k1 l0 l0 (l0.length : Int) (wrap64 (x7_1 + 1))))) else (none)) else (none)) else (impl_StoreOk.l0 k1 l0 l0 (l0.length : Int) (wrap64 (x7_1 + 1)))) else (some false)))) else (some false)) = some r := H
      have A5 := A_ A50
      clear A50
      by_cases c6 : t305 = true
      ·subst c6
       have H1 : (if (((rd_T89 l0 x7_1).f1).length : Int) > 3 then (some false) else ((impl_valsOk.f k1 ((rd_T89 l0 x7_1).f1)).bind fun t306 => (if t306 = true then (if x7_1 > 0 then (if 0 ≤ (wrap64 (x7_1 - 1)) then (if (wrap64 (x7_1 - 1)) < (l0.length : Int) then ((impl_placeCmp.f k1 ((rd_T89 l0 (wrap64 (x7_1 - 1))).f0) ((rd_T89 l0 x7_1).f0)).bind fun t308 => (if t308 ≥ 0 then (some false) else (impl_StoreOk.l0 k1 l0 l0 (l0.length : Int) (wrap64 (x7_1 + 1))))) else (none)) else (none)) else (impl_StoreOk.l0 k1 l0 l0 (l0.length : Int) (wrap64 (x7_1 + 1)))) else (some false)))) = some r := by rw [if_pos rfl] at H; exact H
       clear H
       have H := H1
       clear H1
       by_cases c7 : (((rd_T89 l0 x7_1).f1).length : Int) > 3
       ·rw [if_pos c7] at H
        have c7b0 : decide (3 < (((rd_T89 l0 x7_1).f1).length : Int)) = true := decide_eq_true c7
        have c7b1 : decide (3 < ((rd_T89 l0 x7_1).f1).length) = true := decide_eq_true (by omega)
        clear c7
        obtain rfl := Option.some.inj H
        have p303 : 0 ≤ (x7_1 : Int) := of_decide_eq_true Z13
        have q303 : x7_1 < (l0.length : Int) := of_decide_eq_true Z13
        obtain ⟨ad303, A303_0, c303_0, A303_1, c303_1, e303, hx303_0, hx303_1, hl303_0, hi303_0, hl303_1, hi303_1⟩ := at_T89 HR0.out x7_1 p303 q303
        cases e303
        replace hx303_0 := ZC HB.out hx303_0
        replace hx303_1 := ZC HB.out hx303_1
        have HR303_0 := A_ hi303_0
        have HC303_0 := A_ hl303_0
        clear hi303_0 hl303_0
        have HR303_1 := A_ hi303_1
        have HC303_1 := A_ hl303_1
        clear hi303_1 hl303_1
        replace p303 := eq_true p303
        replace q303 := eq_true q303
        try go_wp2_with (first | ((with_reducible refine gate_dst (N := 4) rfl ?_); (try (refine gate_guard (by rfl) ?_; dsimp only)); refine box_event ?hg (N := 4) ?hd (cs := #[.slice none 0 0, .slice none 0 0]) (t := 89) ?hr ?_; (case hd => rfl); (case hg => rfl); (case hr => exact Z20); intro gb304 hg w8 hbox hb; have n0_ := A_ (below_step Z0 hb); have n1_ := A_ (hbox); have n2_ := A_ ((by rw [hg]; exact (below_size Z0) : w.heap.size ≤ gb304)); have n3_ := A_ ((by rw [hg]; exact (below_size Z0) : w.heap.size ≤ gb304)); clear HB; have HB := n0_; have BK304 := n1_; have GW304 := n2_; have GE304 := n3_; clear n0_ n1_ n2_ n3_; clear hb hbox hg; have hcz9_0 : w8.cell? ⟨gb304, 0, none⟩ = some (.slice none 0 0) := (blk_cell BK304.out 0).trans rfl; have hcz9_1 : w8.cell? ⟨gb304, 1, none⟩ = some (.slice none 0 0) := (blk_cell BK304.out 1).trans rfl; have hfz9_0 := blk_frozen BK304.out 0; have hfz9_1 := blk_frozen BK304.out 1))
        have n0_ : Aside0 (((w8.setCell ⟨gb304, 0, none⟩ (.slice A303_0 ((rd_T89 l0 x7_1).f0).length c303_0)).setCell ⟨gb304, 1, none⟩ (.slice A303_1 ((rd_T89 l0 x7_1).f1).length c303_1)).heap[gb304]? = some (.cells #[.slice A303_0 ((rd_T89 l0 x7_1).f0).length c303_0, .slice A303_1 ((rd_T89 l0 x7_1).f1).length c303_1] 89 (0, 0))) := ⟨Z21 BK304.out⟩
        have n1_ : Aside0 (Below w.heap.size w ((w8.setCell ⟨gb304, 0, none⟩ (.slice A303_0 ((rd_T89 l0 x7_1).f0).length c303_0)).setCell ⟨gb304, 1, none⟩ (.slice A303_1 ((rd_T89 l0 x7_1).f1).length c303_1))) := ⟨Z2 GE304.out⟩
        (try clear BK304)
        (try clear HB)
        generalize ((w8.setCell ⟨gb304, 0, none⟩ (.slice A303_0 ((rd_T89 l0 x7_1).f0).length c303_0)).setCell ⟨gb304, 1, none⟩ (.slice A303_1 ((rd_T89 l0 x7_1).f1).length c303_1)) = w10 at n0_ n1_ ⊢
        have BK304 := n0_
        have HB := n1_
        clear n0_ n1_
        have n0_ := A_ (blk_drew BK304.out)
        have n1_ := A_ (below_drew1 HB.out)
        clear BK304
        clear HB
        have BK304 := n0_
        have HB := n1_
        clear n0_ n1_
        refine start_ (n := 32) (S := fun w' => w'.cell? ⟨gb304, 0, none⟩ = some (.slice A303_0 ((rd_T89 l0 x7_1).f0).length c303_0) ∧ w'.cell? ⟨gb304, 1, none⟩ = some (.slice A303_1 ((rd_T89 l0 x7_1).f1).length c303_1)) (ds := []) #[F,F,F,F,F,F,F,F,F,F,F,F,F,F,F,F,F,F,F,F,F,F,F,F,F,F,F,F,F,F,F,F] (by kernel_rfl) rfl rfl ⟨(blk_cell BK304.out 0).trans rfl, (blk_cell BK304.out 1).trans rfl⟩ (fun hHeld => ?_); refine with_tabW impl_StoreOk.tab4 impl_StoreOk.bits4 (fun HT_ HW_ => ?_)
        generalize w10.drew = w11 at BK304 HB hHeld ⊢
        refine pure_ (i := 0) (N := some 12) (v := ?_) (a' := ?_) #[T,F,F,F,F,F,F,F,F,F,F,F,F,F,F,F,F,F,F,F,F,F,F,F,F,F,F,F,F,F,F,F] rfl rfl ZA ZF (Or.inl ⟨by rfl, ?_⟩) ?_ ?_
        rotate_left
        ·exact Z15
        rotate_left
        ·exact Z1
        refine take_ (i := 1) (N := some 13) (v := ?_) (a' := ?_) #[T,T,F,F,F,F,F,F,F,F,F,F,F,F,F,F,F,F,F,F,F,F,F,F,F,F,F,F,F,F,F,F] rfl rfl (take_ofW HT_.out HW_.out (by kernel_rfl)) ZF (Or.inl ⟨by rfl, ?_⟩) hHeld ?_ ?_
        rotate_left
        ·exact Z44
        rotate_left
        ·exact Z1
        refine one_ (i := 2) (N := some 14) #[T,T,T,F,F,F,F,F,F,F,F,F,F,F,F,F,F,F,F,F,F,F,F,F,F,F,F,F,F,F,F,F] rfl rfl (one_of HT_.out (by kernel_rfl)) (by decide) (fun K hK => ?_)
        refine goes_ Try.func53 (by kernel_rfl) rfl #[.slice A303_0 ((rd_T89 l0 x7_1).f0).length c303_0] (by rfl) rfl rfl Z5 ?_
        with_reducible refine (impl_PlaceOk.calls k1 _ _ ((rd_T89 l0 x7_1).f0) true _ ?side1 ?side2 A5.out).mono ?_
        (case side1 => exact Z3 HR303_0.out)
        (case side2 => exact HC303_0.out)
        rintro e w12 ⟨rfl, hb⟩
        refine ⟨_, rfl, ?_⟩
        have n0_ := A_ (blk_below (g := gb304) (o := .cells #[.slice A303_0 ((rd_T89 l0 x7_1).f0).length c303_0, .slice A303_1 ((rd_T89 l0 x7_1).f1).length c303_1] 89 (0, 0)) (Z4 BK304.out) hb)
        have n1_ := A_ (below_step (Z2 GE304.out) hb)
        clear BK304
        clear HB
        have BK304 := n0_
        have HB := n1_
        clear n0_ n1_
        (try clear hb)
        (try clear hb2)
        (try clear hk)
        (try clear hi)
        refine hK.out _ _ ⟨(blk_cell BK304.out 0).trans rfl, (blk_cell BK304.out 1).trans rfl⟩ (fun hHeld => ?_)
        clear hK K
        refine norm_ (a' := ?_) ?_ ?_
        rotate_left
        ·exact Z35
        refine pure_ (i := 3) (N := some 15) (v := ?_) (a' := ?_) #[T,T,T,T,F,F,F,F,F,F,F,F,F,F,F,F,F,F,F,F,F,F,F,F,F,F,F,F,F,F,F,F] rfl rfl ZA ZF (Or.inl ⟨by rfl, ?_⟩) ?_ ?_
        rotate_left
        ·exact Z15
        rotate_left
        ·exact Z1
        refine pure_ (i := 4) (N := some 16) (v := ?_) (a' := ?_) #[T,T,T,T,T,F,F,F,F,F,F,F,F,F,F,F,F,F,F,F,F,F,F,F,F,F,F,F,F,F,F,F] rfl rfl ZA ZF (Or.inl ⟨by rfl, ?_⟩) ?_ ?_
        rotate_left
        ·exact Z15
        rotate_left
        ·exact Z1
        refine pure_ (i := 5) (N := some 17) (v := ?_) (a' := ?_) #[T,T,T,T,T,T,F,F,F,F,F,F,F,F,F,F,F,F,F,F,F,F,F,F,F,F,F,F,F,F,F,F] rfl rfl ZA ZF (Or.inl ⟨by rfl, ?_⟩) ?_ ?_
        rotate_left
        ·exact Z15
        rotate_left
        ·exact Z1
        refine take_ (i := 6) (N := some 18) (v := ?_) (a' := ?_) #[T,T,T,T,T,T,T,F,F,F,F,F,F,F,F,F,F,F,F,F,F,F,F,F,F,F,F,F,F,F,F,F] rfl rfl (take_ofW HT_.out HW_.out (by kernel_rfl)) ZF (Or.inl ⟨by rfl, ?_⟩) hHeld ?_ ?_
        rotate_left
        ·exact Z44
        rotate_left
        ·exact Z1
        refine pure_ (i := 7) (N := some 19) (v := ?_) (a' := ?_) #[T,T,T,T,T,T,T,T,F,F,F,F,F,F,F,F,F,F,F,F,F,F,F,F,F,F,F,F,F,F,F,F] rfl rfl ZA ZF (Or.inl ⟨by rfl, ?_⟩) ?_ ?_
        rotate_left
        ·exact Z15
        rotate_left
        ·exact Z1
        refine pure_ (i := 8) (N := some 20) (v := ?_) (a' := ?_) #[T,T,T,T,T,T,T,T,T,F,F,F,F,F,F,F,F,F,F,F,F,F,F,F,F,F,F,F,F,F,F,F] rfl rfl ZA ZF (Or.inl ⟨by rfl, ?_⟩) ?_ ?_
        rotate_left
        ·exact Z15
        rotate_left
        ·exact Z1
        refine pure_ (i := 9) (N := some 21) (v := ?_) (a' := ?_) #[T,T,T,T,T,T,T,T,T,T,F,F,F,F,F,F,F,F,F,F,F,F,F,F,F,F,F,F,F,F,F,F] rfl rfl ZA ZF (Or.inl ⟨by rfl, ?_⟩) ?_ ?_
        rotate_left
        ·exact Z15
        rotate_left
        ·exact Z1
        refine pure_ (i := 10) (N := some 22) (v := ?_) (a' := ?_) #[T,T,T,T,T,T,T,T,T,T,T,F,F,F,F,F,F,F,F,F,F,F,F,F,F,F,F,F,F,F,F,F] rfl rfl ZA ZF (Or.inl ⟨by rfl, ?_⟩) ?_ ?_
        rotate_left
        ·exact Z15
        rotate_left
        ·exact Z1
        refine pure_ (i := 11) (N := some 23) (v := undef) (a' := ?_) #[T,T,T,T,T,T,T,T,T,T,T,T,F,F,F,F,F,F,F,F,F,F,F,F,F,F,F,F,F,F,F,F] rfl rfl ZA ZF (Or.inr ⟨by rfl, rfl⟩) ?_ ?_
        rotate_left
        ·exact Z1
        refine pure_ (i := 12) (N := some 24) (v := undef) (a' := ?_) #[T,T,T,T,T,T,T,T,T,T,T,T,T,F,F,F,F,F,F,F,F,F,F,F,F,F,F,F,F,F,F,F] rfl rfl ZA ZF (Or.inr ⟨by rfl, rfl⟩) ?_ ?_
        rotate_left
        ·exact Z1
        refine pure_ (i := 13) (N := some 25) (v := undef) (a' := ?_) #[T,T,T,T,T,T,T,T,T,T,T,T,T,T,F,F,F,F,F,F,F,F,F,F,F,F,F,F,F,F,F,F] rfl rfl ZA ZF (Or.inr ⟨by rfl, rfl⟩) ?_ ?_
        rotate_left
        ·exact Z1
        refine pure_ (i := 14) (N := some 26) (v := undef) (a' := ?_) #[T,T,T,T,T,T,T,T,T,T,T,T,T,T,T,F,F,F,F,F,F,F,F,F,F,F,F,F,F,F,F,F] rfl rfl ZA ZF (Or.inr ⟨by rfl, rfl⟩) ?_ ?_
        rotate_left
        ·exact Z1
        refine pure_ (i := 15) (N := some 27) (v := ?_) (a' := ?_) #[T,T,T,T,T,T,T,T,T,T,T,T,T,T,T,T,F,F,F,F,F,F,F,F,F,F,F,F,F,F,F,F] rfl rfl ZA ZF (Or.inl ⟨by rfl, ?_⟩) ?_ ?_
        rotate_left
        ·exact Z15
        rotate_left
        ·exact Z1
        refine pure_ (i := 16) (N := some 28) (v := ?_) (a' := ?_) #[T,T,T,T,T,T,T,T,T,T,T,T,T,T,T,T,T,F,F,F,F,F,F,F,F,F,F,F,F,F,F,F] rfl rfl ZA ZF (Or.inl ⟨by rfl, ?_⟩) ?_ ?_
        rotate_left
        ·exact Z15
        rotate_left
        ·exact Z1
        refine pure_ (i := 17) (N := some 29) (v := undef) (a' := ?_) #[T,T,T,T,T,T,T,T,T,T,T,T,T,T,T,T,T,T,F,F,F,F,F,F,F,F,F,F,F,F,F,F] rfl rfl ZA ZF (Or.inr ⟨by rfl, rfl⟩) ?_ ?_
        rotate_left
        ·exact Z1
        refine pure_ (i := 18) (N := some 30) (v := undef) (a' := ?_) #[T,T,T,T,T,T,T,T,T,T,T,T,T,T,T,T,T,T,T,F,F,F,F,F,F,F,F,F,F,F,F,F] rfl rfl ZA ZF (Or.inr ⟨by rfl, rfl⟩) ?_ ?_
        rotate_left
        ·exact Z1
        refine pure_ (i := 19) (N := some 31) (v := undef) (a' := ?_) #[T,T,T,T,T,T,T,T,T,T,T,T,T,T,T,T,T,T,T,T,F,F,F,F,F,F,F,F,F,F,F,F] rfl rfl ZA ZF (Or.inr ⟨by rfl, rfl⟩) ?_ ?_
        rotate_left
        ·exact Z1
        refine pure_ (i := 20) (N := some 32) (v := undef) (a' := ?_) #[T,T,T,T,T,T,T,T,T,T,T,T,T,T,T,T,T,T,T,T,T,F,F,F,F,F,F,F,F,F,F,F] rfl rfl ZA ZF (Or.inr ⟨by rfl, rfl⟩) ?_ ?_
        rotate_left
        ·exact Z1
        refine pure_ (i := 21) (N := some 33) (v := undef) (a' := ?_) #[T,T,T,T,T,T,T,T,T,T,T,T,T,T,T,T,T,T,T,T,T,T,F,F,F,F,F,F,F,F,F,F] rfl rfl ZA ZF (Or.inr ⟨by rfl, rfl⟩) ?_ ?_
        rotate_left
        ·exact Z1
        refine pure_ (i := 22) (N := some 34) (v := undef) (a' := ?_) #[T,T,T,T,T,T,T,T,T,T,T,T,T,T,T,T,T,T,T,T,T,T,T,F,F,F,F,F,F,F,F,F] rfl rfl ZA ZF (Or.inr ⟨by rfl, rfl⟩) ?_ ?_
        rotate_left
        ·exact Z1
        refine pure_ (i := 23) (N := some 35) (v := undef) (a' := ?_) #[T,T,T,T,T,T,T,T,T,T,T,T,T,T,T,T,T,T,T,T,T,T,T,T,F,F,F,F,F,F,F,F] rfl rfl ZA ZF (Or.inr ⟨by rfl, rfl⟩) ?_ ?_
        rotate_left
        ·exact Z1
        refine pure_ (i := 24) (N := some 36) (v := undef) (a' := ?_) #[T,T,T,T,T,T,T,T,T,T,T,T,T,T,T,T,T,T,T,T,T,T,T,T,T,F,F,F,F,F,F,F] rfl rfl ZA ZF (Or.inr ⟨by rfl, rfl⟩) ?_ ?_
        rotate_left
        ·exact Z1
        refine pure_ (i := 25) (N := some 37) (v := undef) (a' := ?_) #[T,T,T,T,T,T,T,T,T,T,T,T,T,T,T,T,T,T,T,T,T,T,T,T,T,T,F,F,F,F,F,F] rfl rfl ZA ZF (Or.inr ⟨by rfl, rfl⟩) ?_ ?_
        rotate_left
        ·exact Z1
        refine pure_ (i := 26) (N := some 38) (v := undef) (a' := ?_) #[T,T,T,T,T,T,T,T,T,T,T,T,T,T,T,T,T,T,T,T,T,T,T,T,T,T,T,F,F,F,F,F] rfl rfl ZA ZF (Or.inr ⟨by rfl, rfl⟩) ?_ ?_
        rotate_left
        ·exact Z1
        refine pure_ (i := 27) (N := some 39) (v := undef) (a' := ?_) #[T,T,T,T,T,T,T,T,T,T,T,T,T,T,T,T,T,T,T,T,T,T,T,T,T,T,T,T,F,F,F,F] rfl rfl ZA ZF (Or.inr ⟨by rfl, rfl⟩) ?_ ?_
        rotate_left
        ·exact Z1
        refine pure_ (i := 28) (N := some 40) (v := undef) (a' := ?_) #[T,T,T,T,T,T,T,T,T,T,T,T,T,T,T,T,T,T,T,T,T,T,T,T,T,T,T,T,T,F,F,F] rfl rfl ZA ZF (Or.inr ⟨by rfl, rfl⟩) ?_ ?_
        rotate_left
        ·exact Z1
        refine pure_ (i := 29) (N := some 41) (v := undef) (a' := ?_) #[T,T,T,T,T,T,T,T,T,T,T,T,T,T,T,T,T,T,T,T,T,T,T,T,T,T,T,T,T,T,F,F] rfl rfl ZA ZF (Or.inr ⟨by rfl, rfl⟩) ?_ ?_
        rotate_left
        ·exact Z1
        refine pure_ (i := 30) (N := some 42) (v := undef) (a' := ?_) #[T,T,T,T,T,T,T,T,T,T,T,T,T,T,T,T,T,T,T,T,T,T,T,T,T,T,T,T,T,T,T,F] rfl rfl ZA ZF (Or.inr ⟨by rfl, rfl⟩) ?_ ?_
        rotate_left
        ·exact Z1
        refine pure_ (i := 31) (N := some 43) (v := ?_) (a' := ?_) #[T,T,T,T,T,T,T,T,T,T,T,T,T,T,T,T,T,T,T,T,T,T,T,T,T,T,T,T,T,T,T,T] rfl rfl ZA ZF (Or.inl ⟨by rfl, ?_⟩) ?_ ?_
        rotate_left
        ·exact Z15
        rotate_left
        ·exact Z1
        refine done_ (done_of HT_.out (by kernel_rfl)) ?_
        try go_wp2
        go_ret
        exact ⟨Z14, Z2 GE304.out⟩
       ·rw [if_neg c7] at H
        have c7b0 : decide (3 < (((rd_T89 l0 x7_1).f1).length : Int)) = false := decide_eq_false c7
        have c7b1 : decide (3 < ((rd_T89 l0 x7_1).f1).length) = false := decide_eq_false (by omega)
        clear c7
        replace H := Option.bind_eq_some_iff.mp H
        obtain ⟨t306, A130, H⟩ := H
        replace H : (if t306 = true then (if x7_1 > 0 then (if 0 ≤ (wrap64 (x7_1 - 1)) then (if (wrap64 (x7_1 - 1)) < (l0.length : Int) then ((impl_placeCmp.f k1 ((rd_T89 l0 (wrap64 (x7_1 - 1))).f0) ((rd_T89 l0 x7_1).f0)).bind fun t308 => (if t308 ≥ 0 then (some false) else (impl_StoreOk.l0 k1 l0 l0 (l0.length : Int) (wrap64 (x7_1 + 1))))) else (none)) else (none)) else (impl_StoreOk.l0 k1 l0 l0 (l0.length : Int) (wrap64 (x7_1 + 1)))) else (some false)) = some r := H
        have A13 := A_ A130
        clear A130
        by_cases c14 : t306 = true
        ·subst c14
         have H1 : (if x7_1 > 0 then (if 0 ≤ (wrap64 (x7_1 - 1)) then (if (wrap64 (x7_1 - 1)) < (l0.length : Int) then ((impl_placeCmp.f k1 ((rd_T89 l0 (wrap64 (x7_1 - 1))).f0) ((rd_T89 l0 x7_1).f0)).bind fun t308 => (if t308 ≥ 0 then (some false) else (impl_StoreOk.l0 k1 l0 l0 (l0.length : Int) (wrap64 (x7_1 + 1))))) else (none)) else (none)) else (impl_StoreOk.l0 k1 l0 l0 (l0.length : Int) (wrap64 (x7_1 + 1)))) = some r := by rw [if_pos rfl] at H; exact H
         clear H
         have H := H1
         clear H1
         by_cases c15 : x7_1 > 0
         ·rw [if_pos c15] at H
          have c15b0 : decide (0 < x7_1) = true := decide_eq_true c15
          clear c15
          obtain ⟨ji16, hji16⟩ : ∃ j_ : Int, (wrap64 (x7_1 - 1)) = j_ := ⟨_, rfl⟩
          replace H : (if 0 ≤ (ji16) then (if (ji16) < (l0.length : Int) then ((impl_placeCmp.f k1 ((rd_T89 l0 (ji16)).f0) ((rd_T89 l0 x7_1).f0)).bind fun t308 => (if t308 ≥ 0 then (some false) else (impl_StoreOk.l0 k1 l0 l0 (l0.length : Int) (wrap64 (x7_1 + 1))))) else (none)) else (none)) = some r := by first | (rw [hji16] at H; exact H) | (simp only [hji16] at H ⊢; exact H)
          (try rw [hji16] at A5)
          (try rw [hji16] at A13)
          have hji16w : (IntKind.i64.wrap (x7_1 - 1)) = ji16 := (i64_w _).trans hji16
          by_cases c17 : 0 ≤ (ji16)
          ·rw [if_pos c17] at H
           have c17b0 : decide (0 ≤ (ji16)) = true := decide_eq_true c17
           clear c17
           by_cases c18 : (ji16) < (l0.length : Int)
           ·rw [if_pos c18] at H
            have c18b0 : decide ((ji16) < (l0.length : Int)) = true := decide_eq_true c18
            clear c18
            replace H := Option.bind_eq_some_iff.mp H
            obtain ⟨t308, A190, H⟩ := H
            replace H : (if t308 ≥ 0 then (some false) else (impl_StoreOk.l0 k1 l0 l0 (l0.length : Int) (wrap64 (x7_1 + 1)))) = some r := H
            have A19 := A_ A190
            clear A190
            by_cases c20 : t308 ≥ 0
            ·rw [if_pos c20] at H
             have c20b0 : decide (0 ≤ t308) = true := decide_eq_true c20
             clear c20
             obtain rfl := Option.some.inj H
             have p303 : 0 ≤ (x7_1 : Int) := of_decide_eq_true Z13
             have q303 : x7_1 < (l0.length : Int) := of_decide_eq_true Z13
             obtain ⟨ad303, A303_0, c303_0, A303_1, c303_1, e303, hx303_0, hx303_1, hl303_0, hi303_0, hl303_1, hi303_1⟩ := at_T89 HR0.out x7_1 p303 q303
             cases e303
             replace hx303_0 := ZC HB.out hx303_0
             replace hx303_1 := ZC HB.out hx303_1
             have HR303_0 := A_ hi303_0
             have HC303_0 := A_ hl303_0
             clear hi303_0 hl303_0
             have HR303_1 := A_ hi303_1
             have HC303_1 := A_ hl303_1
             clear hi303_1 hl303_1
             replace p303 := eq_true p303
             replace q303 := eq_true q303
             try go_wp2_with (first | ((with_reducible refine gate_dst (N := 4) rfl ?_); (try (refine gate_guard (by rfl) ?_; dsimp only)); refine box_event ?hg (N := 4) ?hd (cs := #[.slice none 0 0, .slice none 0 0]) (t := 89) ?hr ?_; (case hd => rfl); (case hg => rfl); (case hr => exact Z20); intro gb304 hg w21 hbox hb; have n0_ := A_ (below_step Z0 hb); have n1_ := A_ (hbox); have n2_ := A_ ((by rw [hg]; exact (below_size Z0) : w.heap.size ≤ gb304)); have n3_ := A_ ((by rw [hg]; exact (below_size Z0) : w.heap.size ≤ gb304)); clear HB; have HB := n0_; have BK304 := n1_; have GW304 := n2_; have GE304 := n3_; clear n0_ n1_ n2_ n3_; clear hb hbox hg; have hcz22_0 : w21.cell? ⟨gb304, 0, none⟩ = some (.slice none 0 0) := (blk_cell BK304.out 0).trans rfl; have hcz22_1 : w21.cell? ⟨gb304, 1, none⟩ = some (.slice none 0 0) := (blk_cell BK304.out 1).trans rfl; have hfz22_0 := blk_frozen BK304.out 0; have hfz22_1 := blk_frozen BK304.out 1))
             have n0_ : Aside0 (((w21.setCell ⟨gb304, 0, none⟩ (.slice A303_0 ((rd_T89 l0 x7_1).f0).length c303_0)).setCell ⟨gb304, 1, none⟩ (.slice A303_1 ((rd_T89 l0 x7_1).f1).length c303_1)).heap[gb304]? = some (.cells #[.slice A303_0 ((rd_T89 l0 x7_1).f0).length c303_0, .slice A303_1 ((rd_T89 l0 x7_1).f1).length c303_1] 89 (0, 0))) := ⟨Z21 BK304.out⟩
             have n1_ : Aside0 (Below w.heap.size w ((w21.setCell ⟨gb304, 0, none⟩ (.slice A303_0 ((rd_T89 l0 x7_1).f0).length c303_0)).setCell ⟨gb304, 1, none⟩ (.slice A303_1 ((rd_T89 l0 x7_1).f1).length c303_1))) := ⟨Z2 GE304.out⟩
             (try clear BK304)
             (try clear HB)
             generalize ((w21.setCell ⟨gb304, 0, none⟩ (.slice A303_0 ((rd_T89 l0 x7_1).f0).length c303_0)).setCell ⟨gb304, 1, none⟩ (.slice A303_1 ((rd_T89 l0 x7_1).f1).length c303_1)) = w23 at n0_ n1_ ⊢
             have BK304 := n0_
             have HB := n1_
             clear n0_ n1_
             have n0_ := A_ (blk_drew BK304.out)
             have n1_ := A_ (below_drew1 HB.out)
             clear BK304
             clear HB
             have BK304 := n0_
             have HB := n1_
             clear n0_ n1_
             have p307 : 0 ≤ ((ji16) : Int) := of_decide_eq_true Z13
             have q307 : (ji16) < (l0.length : Int) := of_decide_eq_true Z13
             obtain ⟨ad307, A307_0, c307_0, A307_1, c307_1, e307, hx307_0, hx307_1, hl307_0, hi307_0, hl307_1, hi307_1⟩ := at_T89 HR0.out (ji16) p307 q307
             have hw307_1 := hx307_1
             have hw307_0 := hx307_0
             obtain rfl : ad303 = ad307 := (by injection e307)
             replace hx307_0 := ZC HB.out hx307_0
             replace hx307_1 := ZC HB.out hx307_1
             have HR307_0 := A_ hi307_0
             have HC307_0 := A_ hl307_0
             clear hi307_0 hl307_0
             have HR307_1 := A_ hi307_1
             have HC307_1 := A_ hl307_1
             clear hi307_1 hl307_1
             replace p307 := eq_true p307
             replace q307 := eq_true q307
             refine start_ (n := 32) (S := fun w' => w'.cell? ⟨gb304, 0, none⟩ = some (.slice A303_0 ((rd_T89 l0 x7_1).f0).length c303_0) ∧ w'.cell? ⟨gb304, 1, none⟩ = some (.slice A303_1 ((rd_T89 l0 x7_1).f1).length c303_1) ∧ w'.cell? (ad303.add (((ji16)).toNat * 2)) = some (.slice A307_0 ((rd_T89 l0 (ji16)).f0).length c307_0) ∧ w'.cell? ⟨(ad303.add (((ji16)).toNat * 2)).block, (ad303.add (((ji16)).toNat * 2)).off + 1, none⟩ = some (.slice A307_1 ((rd_T89 l0 (ji16)).f1).length c307_1)) (ds := []) #[F,F,F,F,F,F,F,F,F,F,F,F,F,F,F,F,F,F,F,F,F,F,F,F,F,F,F,F,F,F,F,F] (by kernel_rfl) rfl rfl ⟨(blk_cell BK304.out 0).trans rfl, (blk_cell BK304.out 1).trans rfl, (ZC HB.out hw307_0 :), (ZC HB.out hw307_1 :)⟩ (fun hHeld => ?_); refine with_tabW impl_StoreOk.tab4 impl_StoreOk.bits4 (fun HT_ HW_ => ?_)
             generalize w23.drew = w24 at BK304 HB HR307_0 HR307_1 hx307_0 hx307_1 hHeld ⊢
             refine pure_ (i := 0) (N := some 12) (v := ?_) (a' := ?_) #[T,F,F,F,F,F,F,F,F,F,F,F,F,F,F,F,F,F,F,F,F,F,F,F,F,F,F,F,F,F,F,F] rfl rfl ZA ZF (Or.inl ⟨by rfl, ?_⟩) ?_ ?_
             rotate_left
             ·exact Z15
             rotate_left
             ·exact Z1
             refine take_ (i := 1) (N := some 13) (v := ?_) (a' := ?_) #[T,T,F,F,F,F,F,F,F,F,F,F,F,F,F,F,F,F,F,F,F,F,F,F,F,F,F,F,F,F,F,F] rfl rfl (take_ofW HT_.out HW_.out (by kernel_rfl)) ZF (Or.inl ⟨by rfl, ?_⟩) hHeld ?_ ?_
             rotate_left
             ·exact Z28
             rotate_left
             ·exact Z1
             refine one_ (i := 2) (N := some 14) #[T,T,T,F,F,F,F,F,F,F,F,F,F,F,F,F,F,F,F,F,F,F,F,F,F,F,F,F,F,F,F,F] rfl rfl (one_of HT_.out (by kernel_rfl)) (by decide) (fun K hK => ?_)
             refine goes_ Try.func53 (by kernel_rfl) rfl #[.slice A303_0 ((rd_T89 l0 x7_1).f0).length c303_0] (by rfl) rfl rfl Z5 ?_
             with_reducible refine (impl_PlaceOk.calls k1 _ _ ((rd_T89 l0 x7_1).f0) true _ ?side1 ?side2 A5.out).mono ?_
             (case side1 => exact Z3 HR303_0.out)
             (case side2 => exact HC303_0.out)
             rintro e w25 ⟨rfl, hb⟩
             refine ⟨_, rfl, ?_⟩
             have n0_ := A_ (blk_below (g := gb304) (o := .cells #[.slice A303_0 ((rd_T89 l0 x7_1).f0).length c303_0, .slice A303_1 ((rd_T89 l0 x7_1).f1).length c303_1] 89 (0, 0)) (Z4 BK304.out) hb)
             have n1_ := A_ (below_step (Z2 GE304.out) hb)
             clear BK304
             clear HB
             have BK304 := n0_
             have HB := n1_
             clear n0_ n1_
             (try clear hb)
             (try clear hb2)
             (try clear hk)
             (try clear hi)
             refine hK.out _ _ ⟨(blk_cell BK304.out 0).trans rfl, (blk_cell BK304.out 1).trans rfl, (ZC HB.out hw307_0 :), (ZC HB.out hw307_1 :)⟩ (fun hHeld => ?_)
             clear hK K
             refine norm_ (a' := ?_) ?_ ?_
             rotate_left
             ·exact Z35
             refine pure_ (i := 3) (N := some 15) (v := ?_) (a' := ?_) #[T,T,T,T,F,F,F,F,F,F,F,F,F,F,F,F,F,F,F,F,F,F,F,F,F,F,F,F,F,F,F,F] rfl rfl ZA ZF (Or.inl ⟨by rfl, ?_⟩) ?_ ?_
             rotate_left
             ·exact Z15
             rotate_left
             ·exact Z1
             refine pure_ (i := 4) (N := some 16) (v := ?_) (a' := ?_) #[T,T,T,T,T,F,F,F,F,F,F,F,F,F,F,F,F,F,F,F,F,F,F,F,F,F,F,F,F,F,F,F] rfl rfl ZA ZF (Or.inl ⟨by rfl, ?_⟩) ?_ ?_
             rotate_left
             ·exact Z15
             rotate_left
             ·exact Z1
             refine pure_ (i := 5) (N := some 17) (v := ?_) (a' := ?_) #[T,T,T,T,T,T,F,F,F,F,F,F,F,F,F,F,F,F,F,F,F,F,F,F,F,F,F,F,F,F,F,F] rfl rfl ZA ZF (Or.inl ⟨by rfl, ?_⟩) ?_ ?_
             rotate_left
             ·exact Z15
             rotate_left
             ·exact Z1
             refine take_ (i := 6) (N := some 18) (v := ?_) (a' := ?_) #[T,T,T,T,T,T,T,F,F,F,F,F,F,F,F,F,F,F,F,F,F,F,F,F,F,F,F,F,F,F,F,F] rfl rfl (take_ofW HT_.out HW_.out (by kernel_rfl)) ZF (Or.inl ⟨by rfl, ?_⟩) hHeld ?_ ?_
             rotate_left
             ·exact Z28
             rotate_left
             ·exact Z1
             refine pure_ (i := 7) (N := some 19) (v := ?_) (a' := ?_) #[T,T,T,T,T,T,T,T,F,F,F,F,F,F,F,F,F,F,F,F,F,F,F,F,F,F,F,F,F,F,F,F] rfl rfl ZA ZF (Or.inl ⟨by rfl, ?_⟩) ?_ ?_
             rotate_left
             ·exact Z15
             rotate_left
             ·exact Z1
             refine pure_ (i := 8) (N := some 20) (v := ?_) (a' := ?_) #[T,T,T,T,T,T,T,T,T,F,F,F,F,F,F,F,F,F,F,F,F,F,F,F,F,F,F,F,F,F,F,F] rfl rfl ZA ZF (Or.inl ⟨by rfl, ?_⟩) ?_ ?_
             rotate_left
             ·exact Z15
             rotate_left
             ·exact Z1
             refine pure_ (i := 9) (N := some 21) (v := ?_) (a' := ?_) #[T,T,T,T,T,T,T,T,T,T,F,F,F,F,F,F,F,F,F,F,F,F,F,F,F,F,F,F,F,F,F,F] rfl rfl ZA ZF (Or.inl ⟨by rfl, ?_⟩) ?_ ?_
             rotate_left
             ·exact Z15
             rotate_left
             ·exact Z1
             refine pure_ (i := 10) (N := some 22) (v := ?_) (a' := ?_) #[T,T,T,T,T,T,T,T,T,T,T,F,F,F,F,F,F,F,F,F,F,F,F,F,F,F,F,F,F,F,F,F] rfl rfl ZA ZF (Or.inl ⟨by rfl, ?_⟩) ?_ ?_
             rotate_left
             ·exact Z15
             rotate_left
             ·exact Z1
             refine pure_ (i := 11) (N := some 23) (v := ?_) (a' := ?_) #[T,T,T,T,T,T,T,T,T,T,T,T,F,F,F,F,F,F,F,F,F,F,F,F,F,F,F,F,F,F,F,F] rfl rfl ZA ZF (Or.inl ⟨by rfl, ?_⟩) ?_ ?_
             rotate_left
             ·exact Z15
             rotate_left
             ·exact Z1
             refine take_ (i := 12) (N := some 24) (v := ?_) (a' := ?_) #[T,T,T,T,T,T,T,T,T,T,T,T,T,F,F,F,F,F,F,F,F,F,F,F,F,F,F,F,F,F,F,F] rfl rfl (take_ofW HT_.out HW_.out (by kernel_rfl)) ZF (Or.inl ⟨by rfl, ?_⟩) hHeld ?_ ?_
             rotate_left
             ·exact Z28
             rotate_left
             ·exact Z1
             refine one_ (i := 13) (N := some 25) #[T,T,T,T,T,T,T,T,T,T,T,T,T,T,F,F,F,F,F,F,F,F,F,F,F,F,F,F,F,F,F,F] rfl rfl (one_of HT_.out (by kernel_rfl)) (by decide) (fun K hK => ?_)
             refine goes_ Try.func78 (by kernel_rfl) rfl #[.slice A303_1 ((rd_T89 l0 x7_1).f1).length c303_1] (by rfl) rfl rfl Z5 ?_
             with_reducible refine (impl_valsOk.calls k1 _ _ ((rd_T89 l0 x7_1).f1) true _ ?side1 ?side2 A13.out).mono ?_
             (case side1 => exact Z3 HR303_1.out)
             (case side2 => exact HC303_1.out)
             rintro e w26 ⟨rfl, hb⟩
             refine ⟨_, rfl, ?_⟩
             have n0_ := A_ (blk_below (g := gb304) (o := .cells #[.slice A303_0 ((rd_T89 l0 x7_1).f0).length c303_0, .slice A303_1 ((rd_T89 l0 x7_1).f1).length c303_1] 89 (0, 0)) (Z4 BK304.out) hb)
             have n1_ := A_ (below_step (Z2 GE304.out) hb)
             clear BK304
             clear HB
             have BK304 := n0_
             have HB := n1_
             clear n0_ n1_
             (try clear hb)
             (try clear hb2)
             (try clear hk)
             (try clear hi)
             refine hK.out _ _ ⟨(blk_cell BK304.out 0).trans rfl, (blk_cell BK304.out 1).trans rfl, (ZC HB.out hw307_0 :), (ZC HB.out hw307_1 :)⟩ (fun hHeld => ?_)
             clear hK K
             refine norm_ (a' := ?_) ?_ ?_
             rotate_left
             ·exact Z29
             refine pure_ (i := 14) (N := some 26) (v := ?_) (a' := ?_) #[T,T,T,T,T,T,T,T,T,T,T,T,T,T,T,F,F,F,F,F,F,F,F,F,F,F,F,F,F,F,F,F] rfl rfl ZA ZF (Or.inl ⟨by rfl, ?_⟩) ?_ ?_
             rotate_left
             ·exact Z15
             rotate_left
             ·exact Z1
             refine pure_ (i := 15) (N := some 27) (v := ?_) (a' := ?_) #[T,T,T,T,T,T,T,T,T,T,T,T,T,T,T,T,F,F,F,F,F,F,F,F,F,F,F,F,F,F,F,F] rfl rfl ZA ZF (Or.inl ⟨by rfl, ?_⟩) ?_ ?_
             rotate_left
             ·exact Z15
             rotate_left
             ·exact Z1
             refine pure_ (i := 16) (N := some 28) (v := ?_) (a' := ?_) #[T,T,T,T,T,T,T,T,T,T,T,T,T,T,T,T,T,F,F,F,F,F,F,F,F,F,F,F,F,F,F,F] rfl rfl ZA ZF (Or.inl ⟨by rfl, ?_⟩) ?_ ?_
             rotate_left
             ·exact Z15
             rotate_left
             ·exact Z1
             refine pure_ (i := 17) (N := some 29) (v := ?_) (a' := ?_) #[T,T,T,T,T,T,T,T,T,T,T,T,T,T,T,T,T,T,F,F,F,F,F,F,F,F,F,F,F,F,F,F] rfl rfl ZA ZF (Or.inl ⟨by rfl, ?_⟩) ?_ ?_
             rotate_left
             ·exact Z15
             rotate_left
             ·exact Z1
             refine pure_ (i := 18) (N := some 30) (v := ?_) (a' := ?_) #[T,T,T,T,T,T,T,T,T,T,T,T,T,T,T,T,T,T,T,F,F,F,F,F,F,F,F,F,F,F,F,F] rfl rfl ZA ZF (Or.inl ⟨by rfl, ?_⟩) ?_ ?_
             rotate_left
             ·exact Z15
             rotate_left
             ·exact Z1
             refine pure_ (i := 19) (N := some 31) (v := ?_) (a' := ?_) #[T,T,T,T,T,T,T,T,T,T,T,T,T,T,T,T,T,T,T,T,F,F,F,F,F,F,F,F,F,F,F,F] rfl rfl ZA ZF (Or.inl ⟨by rfl, ?_⟩) ?_ ?_
             rotate_left
             ·exact Z15
             rotate_left
             ·exact Z1
             refine pure_ (i := 20) (N := some 32) (v := ?_) (a' := ?_) #[T,T,T,T,T,T,T,T,T,T,T,T,T,T,T,T,T,T,T,T,T,F,F,F,F,F,F,F,F,F,F,F] rfl rfl ZA ZF (Or.inl ⟨by rfl, ?_⟩) ?_ ?_
             rotate_left
             ·exact Z15
             rotate_left
             ·exact Z1
             refine pure_ (i := 21) (N := some 33) (v := ?_) (a' := ?_) #[T,T,T,T,T,T,T,T,T,T,T,T,T,T,T,T,T,T,T,T,T,T,F,F,F,F,F,F,F,F,F,F] rfl rfl ZA ZF (Or.inl ⟨by rfl, ?_⟩) ?_ ?_
             rotate_left
             ·exact Z15
             rotate_left
             ·exact Z1
             refine pure_ (i := 22) (N := some 34) (v := ?_) (a' := ?_) #[T,T,T,T,T,T,T,T,T,T,T,T,T,T,T,T,T,T,T,T,T,T,T,F,F,F,F,F,F,F,F,F] rfl rfl ZA ZF (Or.inl ⟨by rfl, ?_⟩) ?_ ?_
             rotate_left
             ·exact Z15
             rotate_left
             ·exact Z1
             refine pure_ (i := 23) (N := some 35) (v := ?_) (a' := ?_) #[T,T,T,T,T,T,T,T,T,T,T,T,T,T,T,T,T,T,T,T,T,T,T,T,F,F,F,F,F,F,F,F] rfl rfl ZA ZF (Or.inl ⟨by rfl, ?_⟩) ?_ ?_
             rotate_left
             ·exact Z15
             rotate_left
             ·exact Z1
             refine pure_ (i := 24) (N := some 36) (v := ?_) (a' := ?_) #[T,T,T,T,T,T,T,T,T,T,T,T,T,T,T,T,T,T,T,T,T,T,T,T,T,F,F,F,F,F,F,F] rfl rfl ZA ZF (Or.inl ⟨by rfl, ?_⟩) ?_ ?_
             rotate_left
             ·exact Z15
             rotate_left
             ·exact Z1
             refine pure_ (i := 26) (N := some 38) (v := ?_) (a' := ?_) #[T,T,T,T,T,T,T,T,T,T,T,T,T,T,T,T,T,T,T,T,T,T,T,T,T,F,T,F,F,F,F,F] rfl rfl ZA ZF (Or.inl ⟨by rfl, ?_⟩) ?_ ?_
             rotate_left
             ·exact Z15
             rotate_left
             ·exact Z1
             refine take_ (i := 25) (N := some 37) (v := ?_) (a' := ?_) #[T,T,T,T,T,T,T,T,T,T,T,T,T,T,T,T,T,T,T,T,T,T,T,T,T,T,T,F,F,F,F,F] rfl rfl (take_ofW HT_.out HW_.out (by kernel_rfl)) ZF (Or.inl ⟨by rfl, ?_⟩) hHeld ?_ ?_
             rotate_left
             ·exact Z28
             rotate_left
             ·exact Z1
             refine take_ (i := 27) (N := some 39) (v := ?_) (a' := ?_) #[T,T,T,T,T,T,T,T,T,T,T,T,T,T,T,T,T,T,T,T,T,T,T,T,T,T,T,T,F,F,F,F] rfl rfl (take_ofW HT_.out HW_.out (by kernel_rfl)) ZF (Or.inl ⟨by rfl, ?_⟩) hHeld ?_ ?_
             rotate_left
             ·exact Z28
             rotate_left
             ·exact Z1
             refine one_ (i := 28) (N := some 40) #[T,T,T,T,T,T,T,T,T,T,T,T,T,T,T,T,T,T,T,T,T,T,T,T,T,T,T,T,T,F,F,F] rfl rfl (one_of HT_.out (by kernel_rfl)) (by decide) (fun K hK => ?_)
             refine goes_ Try.func54 (by kernel_rfl) rfl #[.slice A307_0 ((rd_T89 l0 (ji16)).f0).length c307_0, .slice A303_0 ((rd_T89 l0 x7_1).f0).length c303_0] (by rfl) rfl rfl (by (try simp only [List.map_toArray, List.map_cons, List.map_nil]); first | done | (simp only [hji16]; rfl) | rfl | (simp only [List.length_drop, List.length_take]; rfl)) ?_
             with_reducible refine (impl_placeCmp.calls k1 _ _ ((rd_T89 l0 (ji16)).f0) _ _ ((rd_T89 l0 x7_1).f0) t308 _ ?side1 ?side2 ?side3 ?side4 A19.out).mono ?_
             (case side1 => exact Z3 HR307_0.out)
             (case side2 => exact HC307_0.out)
             (case side3 => exact Z3 HR303_0.out)
             (case side4 => exact HC303_0.out)
             rintro e w27 ⟨rfl, hb⟩
             refine ⟨_, rfl, ?_⟩
             have n0_ := A_ (blk_below (g := gb304) (o := .cells #[.slice A303_0 ((rd_T89 l0 x7_1).f0).length c303_0, .slice A303_1 ((rd_T89 l0 x7_1).f1).length c303_1] 89 (0, 0)) (Z4 BK304.out) hb)
             have n1_ := A_ (below_step (Z2 GE304.out) hb)
             clear BK304
             clear HB
             have BK304 := n0_
             have HB := n1_
             clear n0_ n1_
             (try clear hb)
             (try clear hb2)
             (try clear hk)
             (try clear hi)
             refine hK.out _ _ ⟨(blk_cell BK304.out 0).trans rfl, (blk_cell BK304.out 1).trans rfl, (ZC HB.out hw307_0 :), (ZC HB.out hw307_1 :)⟩ (fun hHeld => ?_)
             clear hK K
             refine norm_ (a' := ?_) ?_ ?_
             rotate_left
             ·show Act.put _ (some 40) _ = _
              simp only [Act.put, List.setIfInBounds_toArray, List.set_cons_zero, List.set_cons_succ, i64_w, i32_w]
              rfl
             refine pure_ (i := 29) (N := some 41) (v := ?_) (a' := ?_) #[T,T,T,T,T,T,T,T,T,T,T,T,T,T,T,T,T,T,T,T,T,T,T,T,T,T,T,T,T,T,F,F] rfl rfl ZA ZF (Or.inl ⟨by rfl, ?_⟩) ?_ ?_
             rotate_left
             ·exact Z15
             rotate_left
             ·exact Z1
             refine pure_ (i := 30) (N := some 42) (v := ?_) (a' := ?_) #[T,T,T,T,T,T,T,T,T,T,T,T,T,T,T,T,T,T,T,T,T,T,T,T,T,T,T,T,T,T,T,F] rfl rfl ZA ZF (Or.inl ⟨by rfl, ?_⟩) ?_ ?_
             rotate_left
             ·exact Z15
             rotate_left
             ·exact Z1
             refine pure_ (i := 31) (N := some 43) (v := ?_) (a' := ?_) #[T,T,T,T,T,T,T,T,T,T,T,T,T,T,T,T,T,T,T,T,T,T,T,T,T,T,T,T,T,T,T,T] rfl rfl ZA ZF (Or.inl ⟨by rfl, ?_⟩) ?_ ?_
             rotate_left
             ·exact Z15
             rotate_left
             ·exact Z1
             refine done_ (done_of HT_.out (by kernel_rfl)) ?_
             try go_wp2
             go_ret
             exact ⟨by first | rfl | (simp [errW_none, errW_some] <;> rfl) | (simp only [← hji16]; first | rfl | (simp [errW_none, errW_some] <;> rfl)) | (simp [*, errW_none, errW_some] <;> rfl), Z2 GE304.out⟩
            ·rw [if_neg c20] at H
             have c20b0 : decide (0 ≤ t308) = false := decide_eq_false c20
             clear c20
             have H' := A_ H
             clear H
             have p303 : 0 ≤ (x7_1 : Int) := of_decide_eq_true Z13
             have q303 : x7_1 < (l0.length : Int) := of_decide_eq_true Z13
             obtain ⟨ad303, A303_0, c303_0, A303_1, c303_1, e303, hx303_0, hx303_1, hl303_0, hi303_0, hl303_1, hi303_1⟩ := at_T89 HR0.out x7_1 p303 q303
             cases e303
             replace hx303_0 := ZC HB.out hx303_0
             replace hx303_1 := ZC HB.out hx303_1
             have HR303_0 := A_ hi303_0
             have HC303_0 := A_ hl303_0
             clear hi303_0 hl303_0
             have HR303_1 := A_ hi303_1
             have HC303_1 := A_ hl303_1
             clear hi303_1 hl303_1
             replace p303 := eq_true p303
             replace q303 := eq_true q303
             try go_wp2_with (first | ((with_reducible refine gate_dst (N := 4) rfl ?_); (try (refine gate_guard (by rfl) ?_; dsimp only)); refine box_event ?hg (N := 4) ?hd (cs := #[.slice none 0 0, .slice none 0 0]) (t := 89) ?hr ?_; (case hd => rfl); (case hg => rfl); (case hr => exact Z20); intro gb304 hg w28 hbox hb; have n0_ := A_ (below_step Z0 hb); have n1_ := A_ (hbox); have n2_ := A_ ((by rw [hg]; exact (below_size Z0) : w.heap.size ≤ gb304)); have n3_ := A_ ((by rw [hg]; exact (below_size Z0) : w.heap.size ≤ gb304)); clear HB; have HB := n0_; have BK304 := n1_; have GW304 := n2_; have GE304 := n3_; clear n0_ n1_ n2_ n3_; clear hb hbox hg; have hcz29_0 : w28.cell? ⟨gb304, 0, none⟩ = some (.slice none 0 0) := (blk_cell BK304.out 0).trans rfl; have hcz29_1 : w28.cell? ⟨gb304, 1, none⟩ = some (.slice none 0 0) := (blk_cell BK304.out 1).trans rfl; have hfz29_0 := blk_frozen BK304.out 0; have hfz29_1 := blk_frozen BK304.out 1))
             have n0_ : Aside0 (((w28.setCell ⟨gb304, 0, none⟩ (.slice A303_0 ((rd_T89 l0 x7_1).f0).length c303_0)).setCell ⟨gb304, 1, none⟩ (.slice A303_1 ((rd_T89 l0 x7_1).f1).length c303_1)).heap[gb304]? = some (.cells #[.slice A303_0 ((rd_T89 l0 x7_1).f0).length c303_0, .slice A303_1 ((rd_T89 l0 x7_1).f1).length c303_1] 89 (0, 0))) := ⟨Z21 BK304.out⟩
             have n1_ : Aside0 (Below w.heap.size w ((w28.setCell ⟨gb304, 0, none⟩ (.slice A303_0 ((rd_T89 l0 x7_1).f0).length c303_0)).setCell ⟨gb304, 1, none⟩ (.slice A303_1 ((rd_T89 l0 x7_1).f1).length c303_1))) := ⟨Z2 GE304.out⟩
             (try clear BK304)
             (try clear HB)
             generalize ((w28.setCell ⟨gb304, 0, none⟩ (.slice A303_0 ((rd_T89 l0 x7_1).f0).length c303_0)).setCell ⟨gb304, 1, none⟩ (.slice A303_1 ((rd_T89 l0 x7_1).f1).length c303_1)) = w30 at n0_ n1_ ⊢
             have BK304 := n0_
             have HB := n1_
             clear n0_ n1_
             have n0_ := A_ (blk_drew BK304.out)
             have n1_ := A_ (below_drew1 HB.out)
             clear BK304
             clear HB
             have BK304 := n0_
             have HB := n1_
             clear n0_ n1_
             have p307 : 0 ≤ ((ji16) : Int) := of_decide_eq_true Z13
             have q307 : (ji16) < (l0.length : Int) := of_decide_eq_true Z13
             obtain ⟨ad307, A307_0, c307_0, A307_1, c307_1, e307, hx307_0, hx307_1, hl307_0, hi307_0, hl307_1, hi307_1⟩ := at_T89 HR0.out (ji16) p307 q307
             have hw307_1 := hx307_1
             have hw307_0 := hx307_0
             obtain rfl : ad303 = ad307 := (by injection e307)
             replace hx307_0 := ZC HB.out hx307_0
             replace hx307_1 := ZC HB.out hx307_1
             have HR307_0 := A_ hi307_0
             have HC307_0 := A_ hl307_0
             clear hi307_0 hl307_0
             have HR307_1 := A_ hi307_1
             have HC307_1 := A_ hl307_1
             clear hi307_1 hl307_1
             replace p307 := eq_true p307
             replace q307 := eq_true q307
             refine start_ (n := 32) (S := fun w' => w'.cell? ⟨gb304, 0, none⟩ = some (.slice A303_0 ((rd_T89 l0 x7_1).f0).length c303_0) ∧ w'.cell? ⟨gb304, 1, none⟩ = some (.slice A303_1 ((rd_T89 l0 x7_1).f1).length c303_1) ∧ w'.cell? (ad303.add (((ji16)).toNat * 2)) = some (.slice A307_0 ((rd_T89 l0 (ji16)).f0).length c307_0) ∧ w'.cell? ⟨(ad303.add (((ji16)).toNat * 2)).block, (ad303.add (((ji16)).toNat * 2)).off + 1, none⟩ = some (.slice A307_1 ((rd_T89 l0 (ji16)).f1).length c307_1)) (ds := []) #[F,F,F,F,F,F,F,F,F,F,F,F,F,F,F,F,F,F,F,F,F,F,F,F,F,F,F,F,F,F,F,F] (by kernel_rfl) rfl rfl ⟨(blk_cell BK304.out 0).trans rfl, (blk_cell BK304.out 1).trans rfl, (ZC HB.out hw307_0 :), (ZC HB.out hw307_1 :)⟩ (fun hHeld => ?_); refine with_tabW impl_StoreOk.tab4 impl_StoreOk.bits4 (fun HT_ HW_ => ?_)
             generalize w30.drew = w31 at BK304 HB HR307_0 HR307_1 hx307_0 hx307_1 hHeld ⊢
             refine pure_ (i := 0) (N := some 12) (v := ?_) (a' := ?_) #[T,F,F,F,F,F,F,F,F,F,F,F,F,F,F,F,F,F,F,F,F,F,F,F,F,F,F,F,F,F,F,F] rfl rfl ZA ZF (Or.inl ⟨by rfl, ?_⟩) ?_ ?_
             rotate_left
             ·exact Z15
             rotate_left
             ·exact Z1
             refine take_ (i := 1) (N := some 13) (v := ?_) (a' := ?_) #[T,T,F,F,F,F,F,F,F,F,F,F,F,F,F,F,F,F,F,F,F,F,F,F,F,F,F,F,F,F,F,F] rfl rfl (take_ofW HT_.out HW_.out (by kernel_rfl)) ZF (Or.inl ⟨by rfl, ?_⟩) hHeld ?_ ?_
             rotate_left
             ·exact Z28
             rotate_left
             ·exact Z1
             refine one_ (i := 2) (N := some 14) #[T,T,T,F,F,F,F,F,F,F,F,F,F,F,F,F,F,F,F,F,F,F,F,F,F,F,F,F,F,F,F,F] rfl rfl (one_of HT_.out (by kernel_rfl)) (by decide) (fun K hK => ?_)
             refine goes_ Try.func53 (by kernel_rfl) rfl #[.slice A303_0 ((rd_T89 l0 x7_1).f0).length c303_0] (by rfl) rfl rfl Z5 ?_
             with_reducible refine (impl_PlaceOk.calls k1 _ _ ((rd_T89 l0 x7_1).f0) true _ ?side1 ?side2 A5.out).mono ?_
             (case side1 => exact Z3 HR303_0.out)
             (case side2 => exact HC303_0.out)
             rintro e w32 ⟨rfl, hb⟩
             refine ⟨_, rfl, ?_⟩
             have n0_ := A_ (blk_below (g := gb304) (o := .cells #[.slice A303_0 ((rd_T89 l0 x7_1).f0).length c303_0, .slice A303_1 ((rd_T89 l0 x7_1).f1).length c303_1] 89 (0, 0)) (Z4 BK304.out) hb)
             have n1_ := A_ (below_step (Z2 GE304.out) hb)
             clear BK304
             clear HB
             have BK304 := n0_
             have HB := n1_
             clear n0_ n1_
             (try clear hb)
             (try clear hb2)
             (try clear hk)
             (try clear hi)
             refine hK.out _ _ ⟨(blk_cell BK304.out 0).trans rfl, (blk_cell BK304.out 1).trans rfl, (ZC HB.out hw307_0 :), (ZC HB.out hw307_1 :)⟩ (fun hHeld => ?_)
             clear hK K
             refine norm_ (a' := ?_) ?_ ?_
             rotate_left
             ·exact Z35
             refine pure_ (i := 3) (N := some 15) (v := ?_) (a' := ?_) #[T,T,T,T,F,F,F,F,F,F,F,F,F,F,F,F,F,F,F,F,F,F,F,F,F,F,F,F,F,F,F,F] rfl rfl ZA ZF (Or.inl ⟨by rfl, ?_⟩) ?_ ?_
             rotate_left
             ·exact Z15
             rotate_left
             ·exact Z1
             refine pure_ (i := 4) (N := some 16) (v := ?_) (a' := ?_) #[T,T,T,T,T,F,F,F,F,F,F,F,F,F,F,F,F,F,F,F,F,F,F,F,F,F,F,F,F,F,F,F] rfl rfl ZA ZF (Or.inl ⟨by rfl, ?_⟩) ?_ ?_
             rotate_left
             ·exact Z15
             rotate_left
             ·exact Z1
             refine pure_ (i := 5) (N := some 17) (v := ?_) (a' := ?_) #[T,T,T,T,T,T,F,F,F,F,F,F,F,F,F,F,F,F,F,F,F,F,F,F,F,F,F,F,F,F,F,F] rfl rfl ZA ZF (Or.inl ⟨by rfl, ?_⟩) ?_ ?_
             rotate_left
             ·exact Z15
             rotate_left
             ·exact Z1
             refine take_ (i := 6) (N := some 18) (v := ?_) (a' := ?_) #[T,T,T,T,T,T,T,F,F,F,F,F,F,F,F,F,F,F,F,F,F,F,F,F,F,F,F,F,F,F,F,F] rfl rfl (take_ofW HT_.out HW_.out (by kernel_rfl)) ZF (Or.inl ⟨by rfl, ?_⟩) hHeld ?_ ?_
             rotate_left
             ·exact Z28
             rotate_left
             ·exact Z1
             refine pure_ (i := 7) (N := some 19) (v := ?_) (a' := ?_) #[T,T,T,T,T,T,T,T,F,F,F,F,F,F,F,F,F,F,F,F,F,F,F,F,F,F,F,F,F,F,F,F] rfl rfl ZA ZF (Or.inl ⟨by rfl, ?_⟩) ?_ ?_
             rotate_left
             ·exact Z15
             rotate_left
             ·exact Z1
             refine pure_ (i := 8) (N := some 20) (v := ?_) (a' := ?_) #[T,T,T,T,T,T,T,T,T,F,F,F,F,F,F,F,F,F,F,F,F,F,F,F,F,F,F,F,F,F,F,F] rfl rfl ZA ZF (Or.inl ⟨by rfl, ?_⟩) ?_ ?_
             rotate_left
             ·exact Z15
             rotate_left
             ·exact Z1
             refine pure_ (i := 9) (N := some 21) (v := ?_) (a' := ?_) #[T,T,T,T,T,T,T,T,T,T,F,F,F,F,F,F,F,F,F,F,F,F,F,F,F,F,F,F,F,F,F,F] rfl rfl ZA ZF (Or.inl ⟨by rfl, ?_⟩) ?_ ?_
             rotate_left
             ·exact Z15
             rotate_left
             ·exact Z1
             refine pure_ (i := 10) (N := some 22) (v := ?_) (a' := ?_) #[T,T,T,T,T,T,T,T,T,T,T,F,F,F,F,F,F,F,F,F,F,F,F,F,F,F,F,F,F,F,F,F] rfl rfl ZA ZF (Or.inl ⟨by rfl, ?_⟩) ?_ ?_
             rotate_left
             ·exact Z15
             rotate_left
             ·exact Z1
             refine pure_ (i := 11) (N := some 23) (v := ?_) (a' := ?_) #[T,T,T,T,T,T,T,T,T,T,T,T,F,F,F,F,F,F,F,F,F,F,F,F,F,F,F,F,F,F,F,F] rfl rfl ZA ZF (Or.inl ⟨by rfl, ?_⟩) ?_ ?_
             rotate_left
             ·exact Z15
             rotate_left
             ·exact Z1
             refine take_ (i := 12) (N := some 24) (v := ?_) (a' := ?_) #[T,T,T,T,T,T,T,T,T,T,T,T,T,F,F,F,F,F,F,F,F,F,F,F,F,F,F,F,F,F,F,F] rfl rfl (take_ofW HT_.out HW_.out (by kernel_rfl)) ZF (Or.inl ⟨by rfl, ?_⟩) hHeld ?_ ?_
             rotate_left
             ·exact Z28
             rotate_left
             ·exact Z1
             refine one_ (i := 13) (N := some 25) #[T,T,T,T,T,T,T,T,T,T,T,T,T,T,F,F,F,F,F,F,F,F,F,F,F,F,F,F,F,F,F,F] rfl rfl (one_of HT_.out (by kernel_rfl)) (by decide) (fun K hK => ?_)
             refine goes_ Try.func78 (by kernel_rfl) rfl #[.slice A303_1 ((rd_T89 l0 x7_1).f1).length c303_1] (by rfl) rfl rfl Z5 ?_
             with_reducible refine (impl_valsOk.calls k1 _ _ ((rd_T89 l0 x7_1).f1) true _ ?side1 ?side2 A13.out).mono ?_
             (case side1 => exact Z3 HR303_1.out)
             (case side2 => exact HC303_1.out)
             rintro e w33 ⟨rfl, hb⟩
             refine ⟨_, rfl, ?_⟩
             have n0_ := A_ (blk_below (g := gb304) (o := .cells #[.slice A303_0 ((rd_T89 l0 x7_1).f0).length c303_0, .slice A303_1 ((rd_T89 l0 x7_1).f1).length c303_1] 89 (0, 0)) (Z4 BK304.out) hb)
             have n1_ := A_ (below_step (Z2 GE304.out) hb)
             clear BK304
             clear HB
             have BK304 := n0_
             have HB := n1_
             clear n0_ n1_
             (try clear hb)
             (try clear hb2)
             (try clear hk)
             (try clear hi)
             refine hK.out _ _ ⟨(blk_cell BK304.out 0).trans rfl, (blk_cell BK304.out 1).trans rfl, (ZC HB.out hw307_0 :), (ZC HB.out hw307_1 :)⟩ (fun hHeld => ?_)
             clear hK K
             refine norm_ (a' := ?_) ?_ ?_
             rotate_left
             ·exact Z29
             refine pure_ (i := 14) (N := some 26) (v := ?_) (a' := ?_) #[T,T,T,T,T,T,T,T,T,T,T,T,T,T,T,F,F,F,F,F,F,F,F,F,F,F,F,F,F,F,F,F] rfl rfl ZA ZF (Or.inl ⟨by rfl, ?_⟩) ?_ ?_
             rotate_left
             ·exact Z15
             rotate_left
             ·exact Z1
             refine pure_ (i := 15) (N := some 27) (v := ?_) (a' := ?_) #[T,T,T,T,T,T,T,T,T,T,T,T,T,T,T,T,F,F,F,F,F,F,F,F,F,F,F,F,F,F,F,F] rfl rfl ZA ZF (Or.inl ⟨by rfl, ?_⟩) ?_ ?_
             rotate_left
             ·exact Z15
             rotate_left
             ·exact Z1
             refine pure_ (i := 16) (N := some 28) (v := ?_) (a' := ?_) #[T,T,T,T,T,T,T,T,T,T,T,T,T,T,T,T,T,F,F,F,F,F,F,F,F,F,F,F,F,F,F,F] rfl rfl ZA ZF (Or.inl ⟨by rfl, ?_⟩) ?_ ?_
             rotate_left
             ·exact Z15
             rotate_left
             ·exact Z1
             refine pure_ (i := 17) (N := some 29) (v := ?_) (a' := ?_) #[T,T,T,T,T,T,T,T,T,T,T,T,T,T,T,T,T,T,F,F,F,F,F,F,F,F,F,F,F,F,F,F] rfl rfl ZA ZF (Or.inl ⟨by rfl, ?_⟩) ?_ ?_
             rotate_left
             ·exact Z15
             rotate_left
             ·exact Z1
             refine pure_ (i := 18) (N := some 30) (v := ?_) (a' := ?_) #[T,T,T,T,T,T,T,T,T,T,T,T,T,T,T,T,T,T,T,F,F,F,F,F,F,F,F,F,F,F,F,F] rfl rfl ZA ZF (Or.inl ⟨by rfl, ?_⟩) ?_ ?_
             rotate_left
             ·exact Z15
             rotate_left
             ·exact Z1
             refine pure_ (i := 19) (N := some 31) (v := ?_) (a' := ?_) #[T,T,T,T,T,T,T,T,T,T,T,T,T,T,T,T,T,T,T,T,F,F,F,F,F,F,F,F,F,F,F,F] rfl rfl ZA ZF (Or.inl ⟨by rfl, ?_⟩) ?_ ?_
             rotate_left
             ·exact Z15
             rotate_left
             ·exact Z1
             refine pure_ (i := 20) (N := some 32) (v := ?_) (a' := ?_) #[T,T,T,T,T,T,T,T,T,T,T,T,T,T,T,T,T,T,T,T,T,F,F,F,F,F,F,F,F,F,F,F] rfl rfl ZA ZF (Or.inl ⟨by rfl, ?_⟩) ?_ ?_
             rotate_left
             ·exact Z15
             rotate_left
             ·exact Z1
             refine pure_ (i := 21) (N := some 33) (v := ?_) (a' := ?_) #[T,T,T,T,T,T,T,T,T,T,T,T,T,T,T,T,T,T,T,T,T,T,F,F,F,F,F,F,F,F,F,F] rfl rfl ZA ZF (Or.inl ⟨by rfl, ?_⟩) ?_ ?_
             rotate_left
             ·exact Z15
             rotate_left
             ·exact Z1
             refine pure_ (i := 22) (N := some 34) (v := ?_) (a' := ?_) #[T,T,T,T,T,T,T,T,T,T,T,T,T,T,T,T,T,T,T,T,T,T,T,F,F,F,F,F,F,F,F,F] rfl rfl ZA ZF (Or.inl ⟨by rfl, ?_⟩) ?_ ?_
             rotate_left
             ·exact Z15
             rotate_left
             ·exact Z1
             refine pure_ (i := 23) (N := some 35) (v := ?_) (a' := ?_) #[T,T,T,T,T,T,T,T,T,T,T,T,T,T,T,T,T,T,T,T,T,T,T,T,F,F,F,F,F,F,F,F] rfl rfl ZA ZF (Or.inl ⟨by rfl, ?_⟩) ?_ ?_
             rotate_left
             ·exact Z15
             rotate_left
             ·exact Z1
             refine pure_ (i := 24) (N := some 36) (v := ?_) (a' := ?_) #[T,T,T,T,T,T,T,T,T,T,T,T,T,T,T,T,T,T,T,T,T,T,T,T,T,F,F,F,F,F,F,F] rfl rfl ZA ZF (Or.inl ⟨by rfl, ?_⟩) ?_ ?_
             rotate_left
             ·exact Z15
             rotate_left
             ·exact Z1
             refine pure_ (i := 26) (N := some 38) (v := ?_) (a' := ?_) #[T,T,T,T,T,T,T,T,T,T,T,T,T,T,T,T,T,T,T,T,T,T,T,T,T,F,T,F,F,F,F,F] rfl rfl ZA ZF (Or.inl ⟨by rfl, ?_⟩) ?_ ?_
             rotate_left
             ·exact Z15
             rotate_left
             ·exact Z1
             refine take_ (i := 25) (N := some 37) (v := ?_) (a' := ?_) #[T,T,T,T,T,T,T,T,T,T,T,T,T,T,T,T,T,T,T,T,T,T,T,T,T,T,T,F,F,F,F,F] rfl rfl (take_ofW HT_.out HW_.out (by kernel_rfl)) ZF (Or.inl ⟨by rfl, ?_⟩) hHeld ?_ ?_
             rotate_left
             ·exact Z28
             rotate_left
             ·exact Z1
             refine take_ (i := 27) (N := some 39) (v := ?_) (a' := ?_) #[T,T,T,T,T,T,T,T,T,T,T,T,T,T,T,T,T,T,T,T,T,T,T,T,T,T,T,T,F,F,F,F] rfl rfl (take_ofW HT_.out HW_.out (by kernel_rfl)) ZF (Or.inl ⟨by rfl, ?_⟩) hHeld ?_ ?_
             rotate_left
             ·exact Z28
             rotate_left
             ·exact Z1
             refine one_ (i := 28) (N := some 40) #[T,T,T,T,T,T,T,T,T,T,T,T,T,T,T,T,T,T,T,T,T,T,T,T,T,T,T,T,T,F,F,F] rfl rfl (one_of HT_.out (by kernel_rfl)) (by decide) (fun K hK => ?_)
             refine goes_ Try.func54 (by kernel_rfl) rfl #[.slice A307_0 ((rd_T89 l0 (ji16)).f0).length c307_0, .slice A303_0 ((rd_T89 l0 x7_1).f0).length c303_0] (by rfl) rfl rfl (by (try simp only [List.map_toArray, List.map_cons, List.map_nil]); first | done | (simp only [hji16]; rfl) | rfl | (simp only [List.length_drop, List.length_take]; rfl)) ?_
             with_reducible refine (impl_placeCmp.calls k1 _ _ ((rd_T89 l0 (ji16)).f0) _ _ ((rd_T89 l0 x7_1).f0) t308 _ ?side1 ?side2 ?side3 ?side4 A19.out).mono ?_
             (case side1 => exact Z3 HR307_0.out)
             (case side2 => exact HC307_0.out)
             (case side3 => exact Z3 HR303_0.out)
             (case side4 => exact HC303_0.out)
             rintro e w34 ⟨rfl, hb⟩
             refine ⟨_, rfl, ?_⟩
             have n0_ := A_ (blk_below (g := gb304) (o := .cells #[.slice A303_0 ((rd_T89 l0 x7_1).f0).length c303_0, .slice A303_1 ((rd_T89 l0 x7_1).f1).length c303_1] 89 (0, 0)) (Z4 BK304.out) hb)
             have n1_ := A_ (below_step (Z2 GE304.out) hb)
             clear BK304
             clear HB
             have BK304 := n0_
             have HB := n1_
             clear n0_ n1_
             (try clear hb)
             (try clear hb2)
             (try clear hk)
             (try clear hi)
             refine hK.out _ _ ⟨(blk_cell BK304.out 0).trans rfl, (blk_cell BK304.out 1).trans rfl, (ZC HB.out hw307_0 :), (ZC HB.out hw307_1 :)⟩ (fun hHeld => ?_)
             clear hK K
             refine norm_ (a' := ?_) ?_ ?_
             rotate_left
             ·show Act.put _ (some 40) _ = _
              simp only [Act.put, List.setIfInBounds_toArray, List.set_cons_zero, List.set_cons_succ, i64_w, i32_w]
              rfl
             refine pure_ (i := 29) (N := some 41) (v := ?_) (a' := ?_) #[T,T,T,T,T,T,T,T,T,T,T,T,T,T,T,T,T,T,T,T,T,T,T,T,T,T,T,T,T,T,F,F] rfl rfl ZA ZF (Or.inl ⟨by rfl, ?_⟩) ?_ ?_
             rotate_left
             ·exact Z15
             rotate_left
             ·exact Z1
             refine pure_ (i := 30) (N := some 42) (v := ?_) (a' := ?_) #[T,T,T,T,T,T,T,T,T,T,T,T,T,T,T,T,T,T,T,T,T,T,T,T,T,T,T,T,T,T,T,F] rfl rfl ZA ZF (Or.inl ⟨by rfl, ?_⟩) ?_ ?_
             rotate_left
             ·exact Z15
             rotate_left
             ·exact Z1
             refine pure_ (i := 31) (N := some 43) (v := ?_) (a' := ?_) #[T,T,T,T,T,T,T,T,T,T,T,T,T,T,T,T,T,T,T,T,T,T,T,T,T,T,T,T,T,T,T,T] rfl rfl ZA ZF (Or.inl ⟨by rfl, ?_⟩) ?_ ?_
             rotate_left
             ·exact Z15
             rotate_left
             ·exact Z1
             refine done_ (done_of HT_.out (by kernel_rfl)) ?_
             try go_wp2
             go_roundg k1
             case measure => have := HK1.out; omega
             case rel => exact ⟨(wrap64 (x7_1 + 1)), Z17, H', ⟨by have := HK1.out; omega⟩, ⟨Z2 GE304.out⟩⟩
           ·rw [if_neg c18] at H
            exact absurd H (by simp)
          ·rw [if_neg c17] at H
           exact absurd H (by simp)
         ·rw [if_neg c15] at H
          have c15b0 : decide (0 < x7_1) = false := decide_eq_false c15
          clear c15
          have H' := A_ H
          clear H
          have p303 : 0 ≤ (x7_1 : Int) := of_decide_eq_true Z13
          have q303 : x7_1 < (l0.length : Int) := of_decide_eq_true Z13
          obtain ⟨ad303, A303_0, c303_0, A303_1, c303_1, e303, hx303_0, hx303_1, hl303_0, hi303_0, hl303_1, hi303_1⟩ := at_T89 HR0.out x7_1 p303 q303
          cases e303
          replace hx303_0 := ZC HB.out hx303_0
          replace hx303_1 := ZC HB.out hx303_1
          have HR303_0 := A_ hi303_0
          have HC303_0 := A_ hl303_0
          clear hi303_0 hl303_0
          have HR303_1 := A_ hi303_1
          have HC303_1 := A_ hl303_1
          clear hi303_1 hl303_1
          replace p303 := eq_true p303
          replace q303 := eq_true q303
          try go_wp2_with (first | ((with_reducible refine gate_dst (N := 4) rfl ?_); (try (refine gate_guard (by rfl) ?_; dsimp only)); refine box_event ?hg (N := 4) ?hd (cs := #[.slice none 0 0, .slice none 0 0]) (t := 89) ?hr ?_; (case hd => rfl); (case hg => rfl); (case hr => exact Z20); intro gb304 hg w35 hbox hb; have n0_ := A_ (below_step Z0 hb); have n1_ := A_ (hbox); have n2_ := A_ ((by rw [hg]; exact (below_size Z0) : w.heap.size ≤ gb304)); have n3_ := A_ ((by rw [hg]; exact (below_size Z0) : w.heap.size ≤ gb304)); clear HB; have HB := n0_; have BK304 := n1_; have GW304 := n2_; have GE304 := n3_; clear n0_ n1_ n2_ n3_; clear hb hbox hg; have hcz36_0 : w35.cell? ⟨gb304, 0, none⟩ = some (.slice none 0 0) := (blk_cell BK304.out 0).trans rfl; have hcz36_1 : w35.cell? ⟨gb304, 1, none⟩ = some (.slice none 0 0) := (blk_cell BK304.out 1).trans rfl; have hfz36_0 := blk_frozen BK304.out 0; have hfz36_1 := blk_frozen BK304.out 1))
          have n0_ : Aside0 (((w35.setCell ⟨gb304, 0, none⟩ (.slice A303_0 ((rd_T89 l0 x7_1).f0).length c303_0)).setCell ⟨gb304, 1, none⟩ (.slice A303_1 ((rd_T89 l0 x7_1).f1).length c303_1)).heap[gb304]? = some (.cells #[.slice A303_0 ((rd_T89 l0 x7_1).f0).length c303_0, .slice A303_1 ((rd_T89 l0 x7_1).f1).length c303_1] 89 (0, 0))) := ⟨Z21 BK304.out⟩
          have n1_ : Aside0 (Below w.heap.size w ((w35.setCell ⟨gb304, 0, none⟩ (.slice A303_0 ((rd_T89 l0 x7_1).f0).length c303_0)).setCell ⟨gb304, 1, none⟩ (.slice A303_1 ((rd_T89 l0 x7_1).f1).length c303_1))) := ⟨Z2 GE304.out⟩
          (try clear BK304)
          (try clear HB)
          generalize ((w35.setCell ⟨gb304, 0, none⟩ (.slice A303_0 ((rd_T89 l0 x7_1).f0).length c303_0)).setCell ⟨gb304, 1, none⟩ (.slice A303_1 ((rd_T89 l0 x7_1).f1).length c303_1)) = w37 at n0_ n1_ ⊢
          have BK304 := n0_
          have HB := n1_
          clear n0_ n1_
          have n0_ := A_ (blk_drew BK304.out)
          have n1_ := A_ (below_drew1 HB.out)
          clear BK304
          clear HB
          have BK304 := n0_
          have HB := n1_
          clear n0_ n1_
          refine start_ (n := 32) (S := fun w' => w'.cell? ⟨gb304, 0, none⟩ = some (.slice A303_0 ((rd_T89 l0 x7_1).f0).length c303_0) ∧ w'.cell? ⟨gb304, 1, none⟩ = some (.slice A303_1 ((rd_T89 l0 x7_1).f1).length c303_1)) (ds := []) #[F,F,F,F,F,F,F,F,F,F,F,F,F,F,F,F,F,F,F,F,F,F,F,F,F,F,F,F,F,F,F,F] (by kernel_rfl) rfl rfl ⟨(blk_cell BK304.out 0).trans rfl, (blk_cell BK304.out 1).trans rfl⟩ (fun hHeld => ?_); refine with_tabW impl_StoreOk.tab4 impl_StoreOk.bits4 (fun HT_ HW_ => ?_)
          generalize w37.drew = w38 at BK304 HB hHeld ⊢
          refine pure_ (i := 0) (N := some 12) (v := ?_) (a' := ?_) #[T,F,F,F,F,F,F,F,F,F,F,F,F,F,F,F,F,F,F,F,F,F,F,F,F,F,F,F,F,F,F,F] rfl rfl ZA ZF (Or.inl ⟨by rfl, ?_⟩) ?_ ?_
          rotate_left
          ·exact Z15
          rotate_left
          ·exact Z1
          refine take_ (i := 1) (N := some 13) (v := ?_) (a' := ?_) #[T,T,F,F,F,F,F,F,F,F,F,F,F,F,F,F,F,F,F,F,F,F,F,F,F,F,F,F,F,F,F,F] rfl rfl (take_ofW HT_.out HW_.out (by kernel_rfl)) ZF (Or.inl ⟨by rfl, ?_⟩) hHeld ?_ ?_
          rotate_left
          ·exact Z44
          rotate_left
          ·exact Z1
          refine one_ (i := 2) (N := some 14) #[T,T,T,F,F,F,F,F,F,F,F,F,F,F,F,F,F,F,F,F,F,F,F,F,F,F,F,F,F,F,F,F] rfl rfl (one_of HT_.out (by kernel_rfl)) (by decide) (fun K hK => ?_)
          refine goes_ Try.func53 (by kernel_rfl) rfl #[.slice A303_0 ((rd_T89 l0 x7_1).f0).length c303_0] (by rfl) rfl rfl Z5 ?_
          with_reducible refine (impl_PlaceOk.calls k1 _ _ ((rd_T89 l0 x7_1).f0) true _ ?side1 ?side2 A5.out).mono ?_
          (case side1 => exact Z3 HR303_0.out)
          (case side2 => exact HC303_0.out)
          rintro e w39 ⟨rfl, hb⟩
          refine ⟨_, rfl, ?_⟩
          have n0_ := A_ (blk_below (g := gb304) (o := .cells #[.slice A303_0 ((rd_T89 l0 x7_1).f0).length c303_0, .slice A303_1 ((rd_T89 l0 x7_1).f1).length c303_1] 89 (0, 0)) (Z4 BK304.out) hb)
          have n1_ := A_ (below_step (Z2 GE304.out) hb)
          clear BK304
          clear HB
          have BK304 := n0_
          have HB := n1_
          clear n0_ n1_
          (try clear hb)
          (try clear hb2)
          (try clear hk)
          (try clear hi)
          refine hK.out _ _ ⟨(blk_cell BK304.out 0).trans rfl, (blk_cell BK304.out 1).trans rfl⟩ (fun hHeld => ?_)
          clear hK K
          refine norm_ (a' := ?_) ?_ ?_
          rotate_left
          ·exact Z35
          refine pure_ (i := 3) (N := some 15) (v := ?_) (a' := ?_) #[T,T,T,T,F,F,F,F,F,F,F,F,F,F,F,F,F,F,F,F,F,F,F,F,F,F,F,F,F,F,F,F] rfl rfl ZA ZF (Or.inl ⟨by rfl, ?_⟩) ?_ ?_
          rotate_left
          ·exact Z15
          rotate_left
          ·exact Z1
          refine pure_ (i := 4) (N := some 16) (v := ?_) (a' := ?_) #[T,T,T,T,T,F,F,F,F,F,F,F,F,F,F,F,F,F,F,F,F,F,F,F,F,F,F,F,F,F,F,F] rfl rfl ZA ZF (Or.inl ⟨by rfl, ?_⟩) ?_ ?_
          rotate_left
          ·exact Z15
          rotate_left
          ·exact Z1
          refine pure_ (i := 5) (N := some 17) (v := ?_) (a' := ?_) #[T,T,T,T,T,T,F,F,F,F,F,F,F,F,F,F,F,F,F,F,F,F,F,F,F,F,F,F,F,F,F,F] rfl rfl ZA ZF (Or.inl ⟨by rfl, ?_⟩) ?_ ?_
          rotate_left
          ·exact Z15
          rotate_left
          ·exact Z1
          refine take_ (i := 6) (N := some 18) (v := ?_) (a' := ?_) #[T,T,T,T,T,T,T,F,F,F,F,F,F,F,F,F,F,F,F,F,F,F,F,F,F,F,F,F,F,F,F,F] rfl rfl (take_ofW HT_.out HW_.out (by kernel_rfl)) ZF (Or.inl ⟨by rfl, ?_⟩) hHeld ?_ ?_
          rotate_left
          ·exact Z44
          rotate_left
          ·exact Z1
          refine pure_ (i := 7) (N := some 19) (v := ?_) (a' := ?_) #[T,T,T,T,T,T,T,T,F,F,F,F,F,F,F,F,F,F,F,F,F,F,F,F,F,F,F,F,F,F,F,F] rfl rfl ZA ZF (Or.inl ⟨by rfl, ?_⟩) ?_ ?_
          rotate_left
          ·exact Z15
          rotate_left
          ·exact Z1
          refine pure_ (i := 8) (N := some 20) (v := ?_) (a' := ?_) #[T,T,T,T,T,T,T,T,T,F,F,F,F,F,F,F,F,F,F,F,F,F,F,F,F,F,F,F,F,F,F,F] rfl rfl ZA ZF (Or.inl ⟨by rfl, ?_⟩) ?_ ?_
          rotate_left
          ·exact Z15
          rotate_left
          ·exact Z1
          refine pure_ (i := 9) (N := some 21) (v := ?_) (a' := ?_) #[T,T,T,T,T,T,T,T,T,T,F,F,F,F,F,F,F,F,F,F,F,F,F,F,F,F,F,F,F,F,F,F] rfl rfl ZA ZF (Or.inl ⟨by rfl, ?_⟩) ?_ ?_
          rotate_left
          ·exact Z15
          rotate_left
          ·exact Z1
          refine pure_ (i := 10) (N := some 22) (v := ?_) (a' := ?_) #[T,T,T,T,T,T,T,T,T,T,T,F,F,F,F,F,F,F,F,F,F,F,F,F,F,F,F,F,F,F,F,F] rfl rfl ZA ZF (Or.inl ⟨by rfl, ?_⟩) ?_ ?_
          rotate_left
          ·exact Z15
          rotate_left
          ·exact Z1
          refine pure_ (i := 11) (N := some 23) (v := ?_) (a' := ?_) #[T,T,T,T,T,T,T,T,T,T,T,T,F,F,F,F,F,F,F,F,F,F,F,F,F,F,F,F,F,F,F,F] rfl rfl ZA ZF (Or.inl ⟨by rfl, ?_⟩) ?_ ?_
          rotate_left
          ·exact Z15
          rotate_left
          ·exact Z1
          refine take_ (i := 12) (N := some 24) (v := ?_) (a' := ?_) #[T,T,T,T,T,T,T,T,T,T,T,T,T,F,F,F,F,F,F,F,F,F,F,F,F,F,F,F,F,F,F,F] rfl rfl (take_ofW HT_.out HW_.out (by kernel_rfl)) ZF (Or.inl ⟨by rfl, ?_⟩) hHeld ?_ ?_
          rotate_left
          ·exact Z44
          rotate_left
          ·exact Z1
          refine one_ (i := 13) (N := some 25) #[T,T,T,T,T,T,T,T,T,T,T,T,T,T,F,F,F,F,F,F,F,F,F,F,F,F,F,F,F,F,F,F] rfl rfl (one_of HT_.out (by kernel_rfl)) (by decide) (fun K hK => ?_)
          refine goes_ Try.func78 (by kernel_rfl) rfl #[.slice A303_1 ((rd_T89 l0 x7_1).f1).length c303_1] (by rfl) rfl rfl Z5 ?_
          with_reducible refine (impl_valsOk.calls k1 _ _ ((rd_T89 l0 x7_1).f1) true _ ?side1 ?side2 A13.out).mono ?_
          (case side1 => exact Z3 HR303_1.out)
          (case side2 => exact HC303_1.out)
          rintro e w40 ⟨rfl, hb⟩
          refine ⟨_, rfl, ?_⟩
          have n0_ := A_ (blk_below (g := gb304) (o := .cells #[.slice A303_0 ((rd_T89 l0 x7_1).f0).length c303_0, .slice A303_1 ((rd_T89 l0 x7_1).f1).length c303_1] 89 (0, 0)) (Z4 BK304.out) hb)
          have n1_ := A_ (below_step (Z2 GE304.out) hb)
          clear BK304
          clear HB
          have BK304 := n0_
          have HB := n1_
          clear n0_ n1_
          (try clear hb)
          (try clear hb2)
          (try clear hk)
          (try clear hi)
          refine hK.out _ _ ⟨(blk_cell BK304.out 0).trans rfl, (blk_cell BK304.out 1).trans rfl⟩ (fun hHeld => ?_)
          clear hK K
          refine norm_ (a' := ?_) ?_ ?_
          rotate_left
          ·exact Z29
          refine pure_ (i := 14) (N := some 26) (v := ?_) (a' := ?_) #[T,T,T,T,T,T,T,T,T,T,T,T,T,T,T,F,F,F,F,F,F,F,F,F,F,F,F,F,F,F,F,F] rfl rfl ZA ZF (Or.inl ⟨by rfl, ?_⟩) ?_ ?_
          rotate_left
          ·exact Z15
          rotate_left
          ·exact Z1
          refine pure_ (i := 15) (N := some 27) (v := ?_) (a' := ?_) #[T,T,T,T,T,T,T,T,T,T,T,T,T,T,T,T,F,F,F,F,F,F,F,F,F,F,F,F,F,F,F,F] rfl rfl ZA ZF (Or.inl ⟨by rfl, ?_⟩) ?_ ?_
          rotate_left
          ·exact Z15
          rotate_left
          ·exact Z1
          refine pure_ (i := 16) (N := some 28) (v := ?_) (a' := ?_) #[T,T,T,T,T,T,T,T,T,T,T,T,T,T,T,T,T,F,F,F,F,F,F,F,F,F,F,F,F,F,F,F] rfl rfl ZA ZF (Or.inl ⟨by rfl, ?_⟩) ?_ ?_
          rotate_left
          ·exact Z15
          rotate_left
          ·exact Z1
          refine pure_ (i := 17) (N := some 29) (v := ?_) (a' := ?_) #[T,T,T,T,T,T,T,T,T,T,T,T,T,T,T,T,T,T,F,F,F,F,F,F,F,F,F,F,F,F,F,F] rfl rfl ZA ZF (Or.inl ⟨by rfl, ?_⟩) ?_ ?_
          rotate_left
          ·exact Z15
          rotate_left
          ·exact Z1
          refine pure_ (i := 18) (N := some 30) (v := ?_) (a' := ?_) #[T,T,T,T,T,T,T,T,T,T,T,T,T,T,T,T,T,T,T,F,F,F,F,F,F,F,F,F,F,F,F,F] rfl rfl ZA ZF (Or.inl ⟨by rfl, ?_⟩) ?_ ?_
          rotate_left
          ·exact Z15
          rotate_left
          ·exact Z1
          refine pure_ (i := 19) (N := some 31) (v := ?_) (a' := ?_) #[T,T,T,T,T,T,T,T,T,T,T,T,T,T,T,T,T,T,T,T,F,F,F,F,F,F,F,F,F,F,F,F] rfl rfl ZA ZF (Or.inl ⟨by rfl, ?_⟩) ?_ ?_
          rotate_left
          ·exact Z15
          rotate_left
          ·exact Z1
          refine pure_ (i := 20) (N := some 32) (v := undef) (a' := ?_) #[T,T,T,T,T,T,T,T,T,T,T,T,T,T,T,T,T,T,T,T,T,F,F,F,F,F,F,F,F,F,F,F] rfl rfl ZA ZF (Or.inr ⟨by rfl, rfl⟩) ?_ ?_
          rotate_left
          ·exact Z1
          refine pure_ (i := 21) (N := some 33) (v := undef) (a' := ?_) #[T,T,T,T,T,T,T,T,T,T,T,T,T,T,T,T,T,T,T,T,T,T,F,F,F,F,F,F,F,F,F,F] rfl rfl ZA ZF (Or.inr ⟨by rfl, rfl⟩) ?_ ?_
          rotate_left
          ·exact Z1
          refine pure_ (i := 22) (N := some 34) (v := undef) (a' := ?_) #[T,T,T,T,T,T,T,T,T,T,T,T,T,T,T,T,T,T,T,T,T,T,T,F,F,F,F,F,F,F,F,F] rfl rfl ZA ZF (Or.inr ⟨by rfl, rfl⟩) ?_ ?_
          rotate_left
          ·exact Z1
          refine pure_ (i := 23) (N := some 35) (v := undef) (a' := ?_) #[T,T,T,T,T,T,T,T,T,T,T,T,T,T,T,T,T,T,T,T,T,T,T,T,F,F,F,F,F,F,F,F] rfl rfl ZA ZF (Or.inr ⟨by rfl, rfl⟩) ?_ ?_
          rotate_left
          ·exact Z1
          refine pure_ (i := 24) (N := some 36) (v := undef) (a' := ?_) #[T,T,T,T,T,T,T,T,T,T,T,T,T,T,T,T,T,T,T,T,T,T,T,T,T,F,F,F,F,F,F,F] rfl rfl ZA ZF (Or.inr ⟨by rfl, rfl⟩) ?_ ?_
          rotate_left
          ·exact Z1
          refine pure_ (i := 25) (N := some 37) (v := undef) (a' := ?_) #[T,T,T,T,T,T,T,T,T,T,T,T,T,T,T,T,T,T,T,T,T,T,T,T,T,T,F,F,F,F,F,F] rfl rfl ZA ZF (Or.inr ⟨by rfl, rfl⟩) ?_ ?_
          rotate_left
          ·exact Z1
          refine pure_ (i := 26) (N := some 38) (v := undef) (a' := ?_) #[T,T,T,T,T,T,T,T,T,T,T,T,T,T,T,T,T,T,T,T,T,T,T,T,T,T,T,F,F,F,F,F] rfl rfl ZA ZF (Or.inr ⟨by rfl, rfl⟩) ?_ ?_
          rotate_left
          ·exact Z1
          refine pure_ (i := 27) (N := some 39) (v := undef) (a' := ?_) #[T,T,T,T,T,T,T,T,T,T,T,T,T,T,T,T,T,T,T,T,T,T,T,T,T,T,T,T,F,F,F,F] rfl rfl ZA ZF (Or.inr ⟨by rfl, rfl⟩) ?_ ?_
          rotate_left
          ·exact Z1
          refine pure_ (i := 28) (N := some 40) (v := undef) (a' := ?_) #[T,T,T,T,T,T,T,T,T,T,T,T,T,T,T,T,T,T,T,T,T,T,T,T,T,T,T,T,T,F,F,F] rfl rfl ZA ZF (Or.inr ⟨by rfl, rfl⟩) ?_ ?_
          rotate_left
          ·exact Z1
          refine pure_ (i := 29) (N := some 41) (v := undef) (a' := ?_) #[T,T,T,T,T,T,T,T,T,T,T,T,T,T,T,T,T,T,T,T,T,T,T,T,T,T,T,T,T,T,F,F] rfl rfl ZA ZF (Or.inr ⟨by rfl, rfl⟩) ?_ ?_
          rotate_left
          ·exact Z1
          refine pure_ (i := 30) (N := some 42) (v := ?_) (a' := ?_) #[T,T,T,T,T,T,T,T,T,T,T,T,T,T,T,T,T,T,T,T,T,T,T,T,T,T,T,T,T,T,T,F] rfl rfl ZA ZF (Or.inl ⟨by rfl, ?_⟩) ?_ ?_
          rotate_left
          ·exact Z15
          rotate_left
          ·exact Z1
          refine pure_ (i := 31) (N := some 43) (v := ?_) (a' := ?_) #[T,T,T,T,T,T,T,T,T,T,T,T,T,T,T,T,T,T,T,T,T,T,T,T,T,T,T,T,T,T,T,T] rfl rfl ZA ZF (Or.inl ⟨by rfl, ?_⟩) ?_ ?_
          rotate_left
          ·exact Z15
          rotate_left
          ·exact Z1
          refine done_ (done_of HT_.out (by kernel_rfl)) ?_
          try go_wp2
          go_roundg k1
          case measure => have := HK1.out; omega
          case rel => exact ⟨(wrap64 (x7_1 + 1)), Z17, H', ⟨by have := HK1.out; omega⟩, ⟨Z2 GE304.out⟩⟩
        ·replace c14 := Bool.eq_false_iff.mpr c14
         subst c14
         have H1 : (some false) = some r := by rw [if_neg (show ¬ (false = true) by decide)] at H; exact H
         clear H
         have H := H1
         clear H1
         obtain rfl := Option.some.inj H
         have p303 : 0 ≤ (x7_1 : Int) := of_decide_eq_true Z13
         have q303 : x7_1 < (l0.length : Int) := of_decide_eq_true Z13
         obtain ⟨ad303, A303_0, c303_0, A303_1, c303_1, e303, hx303_0, hx303_1, hl303_0, hi303_0, hl303_1, hi303_1⟩ := at_T89 HR0.out x7_1 p303 q303
         cases e303
         replace hx303_0 := ZC HB.out hx303_0
         replace hx303_1 := ZC HB.out hx303_1
         have HR303_0 := A_ hi303_0
         have HC303_0 := A_ hl303_0
         clear hi303_0 hl303_0
         have HR303_1 := A_ hi303_1
         have HC303_1 := A_ hl303_1
         clear hi303_1 hl303_1
         replace p303 := eq_true p303
         replace q303 := eq_true q303
         try go_wp2_with (first | ((with_reducible refine gate_dst (N := 4) rfl ?_); (try (refine gate_guard (by rfl) ?_; dsimp only)); refine box_event ?hg (N := 4) ?hd (cs := #[.slice none 0 0, .slice none 0 0]) (t := 89) ?hr ?_; (case hd => rfl); (case hg => rfl); (case hr => exact Z20); intro gb304 hg w41 hbox hb; have n0_ := A_ (below_step Z0 hb); have n1_ := A_ (hbox); have n2_ := A_ ((by rw [hg]; exact (below_size Z0) : w.heap.size ≤ gb304)); have n3_ := A_ ((by rw [hg]; exact (below_size Z0) : w.heap.size ≤ gb304)); clear HB; have HB := n0_; have BK304 := n1_; have GW304 := n2_; have GE304 := n3_; clear n0_ n1_ n2_ n3_; clear hb hbox hg; have hcz42_0 : w41.cell? ⟨gb304, 0, none⟩ = some (.slice none 0 0) := (blk_cell BK304.out 0).trans rfl; have hcz42_1 : w41.cell? ⟨gb304, 1, none⟩ = some (.slice none 0 0) := (blk_cell BK304.out 1).trans rfl; have hfz42_0 := blk_frozen BK304.out 0; have hfz42_1 := blk_frozen BK304.out 1))
         have n0_ : Aside0 (((w41.setCell ⟨gb304, 0, none⟩ (.slice A303_0 ((rd_T89 l0 x7_1).f0).length c303_0)).setCell ⟨gb304, 1, none⟩ (.slice A303_1 ((rd_T89 l0 x7_1).f1).length c303_1)).heap[gb304]? = some (.cells #[.slice A303_0 ((rd_T89 l0 x7_1).f0).length c303_0, .slice A303_1 ((rd_T89 l0 x7_1).f1).length c303_1] 89 (0, 0))) := ⟨Z21 BK304.out⟩
         have n1_ : Aside0 (Below w.heap.size w ((w41.setCell ⟨gb304, 0, none⟩ (.slice A303_0 ((rd_T89 l0 x7_1).f0).length c303_0)).setCell ⟨gb304, 1, none⟩ (.slice A303_1 ((rd_T89 l0 x7_1).f1).length c303_1))) := ⟨Z2 GE304.out⟩
         (try clear BK304)
         (try clear HB)
         generalize ((w41.setCell ⟨gb304, 0, none⟩ (.slice A303_0 ((rd_T89 l0 x7_1).f0).length c303_0)).setCell ⟨gb304, 1, none⟩ (.slice A303_1 ((rd_T89 l0 x7_1).f1).length c303_1)) = w43 at n0_ n1_ ⊢
         have BK304 := n0_
         have HB := n1_
         clear n0_ n1_
         have n0_ := A_ (blk_drew BK304.out)
         have n1_ := A_ (below_drew1 HB.out)
         clear BK304
         clear HB
         have BK304 := n0_
         have HB := n1_
         clear n0_ n1_
         refine start_ (n := 32) (S := fun w' => w'.cell? ⟨gb304, 0, none⟩ = some (.slice A303_0 ((rd_T89 l0 x7_1).f0).length c303_0) ∧ w'.cell? ⟨gb304, 1, none⟩ = some (.slice A303_1 ((rd_T89 l0 x7_1).f1).length c303_1)) (ds := []) #[F,F,F,F,F,F,F,F,F,F,F,F,F,F,F,F,F,F,F,F,F,F,F,F,F,F,F,F,F,F,F,F] (by kernel_rfl) rfl rfl ⟨(blk_cell BK304.out 0).trans rfl, (blk_cell BK304.out 1).trans rfl⟩ (fun hHeld => ?_); refine with_tabW impl_StoreOk.tab4 impl_StoreOk.bits4 (fun HT_ HW_ => ?_)
         generalize w43.drew = w44 at BK304 HB hHeld ⊢
         refine pure_ (i := 0) (N := some 12) (v := ?_) (a' := ?_) #[T,F,F,F,F,F,F,F,F,F,F,F,F,F,F,F,F,F,F,F,F,F,F,F,F,F,F,F,F,F,F,F] rfl rfl ZA ZF (Or.inl ⟨by rfl, ?_⟩) ?_ ?_
         rotate_left
         ·exact Z15
         rotate_left
         ·exact Z1
         refine take_ (i := 1) (N := some 13) (v := ?_) (a' := ?_) #[T,T,F,F,F,F,F,F,F,F,F,F,F,F,F,F,F,F,F,F,F,F,F,F,F,F,F,F,F,F,F,F] rfl rfl (take_ofW HT_.out HW_.out (by kernel_rfl)) ZF (Or.inl ⟨by rfl, ?_⟩) hHeld ?_ ?_
         rotate_left
         ·exact Z44
         rotate_left
         ·exact Z1
         refine one_ (i := 2) (N := some 14) #[T,T,T,F,F,F,F,F,F,F,F,F,F,F,F,F,F,F,F,F,F,F,F,F,F,F,F,F,F,F,F,F] rfl rfl (one_of HT_.out (by kernel_rfl)) (by decide) (fun K hK => ?_)
         refine goes_ Try.func53 (by kernel_rfl) rfl #[.slice A303_0 ((rd_T89 l0 x7_1).f0).length c303_0] (by rfl) rfl rfl Z5 ?_
         with_reducible refine (impl_PlaceOk.calls k1 _ _ ((rd_T89 l0 x7_1).f0) true _ ?side1 ?side2 A5.out).mono ?_
         (case side1 => exact Z3 HR303_0.out)
         (case side2 => exact HC303_0.out)
         rintro e w45 ⟨rfl, hb⟩
         refine ⟨_, rfl, ?_⟩
         have n0_ := A_ (blk_below (g := gb304) (o := .cells #[.slice A303_0 ((rd_T89 l0 x7_1).f0).length c303_0, .slice A303_1 ((rd_T89 l0 x7_1).f1).length c303_1] 89 (0, 0)) (Z4 BK304.out) hb)
         have n1_ := A_ (below_step (Z2 GE304.out) hb)
         clear BK304
         clear HB
         have BK304 := n0_
         have HB := n1_
         clear n0_ n1_
         (try clear hb)
         (try clear hb2)
         (try clear hk)
         (try clear hi)
         refine hK.out _ _ ⟨(blk_cell BK304.out 0).trans rfl, (blk_cell BK304.out 1).trans rfl⟩ (fun hHeld => ?_)
         clear hK K
         refine norm_ (a' := ?_) ?_ ?_
         rotate_left
         ·exact Z35
         refine pure_ (i := 3) (N := some 15) (v := ?_) (a' := ?_) #[T,T,T,T,F,F,F,F,F,F,F,F,F,F,F,F,F,F,F,F,F,F,F,F,F,F,F,F,F,F,F,F] rfl rfl ZA ZF (Or.inl ⟨by rfl, ?_⟩) ?_ ?_
         rotate_left
         ·exact Z15
         rotate_left
         ·exact Z1
         refine pure_ (i := 4) (N := some 16) (v := ?_) (a' := ?_) #[T,T,T,T,T,F,F,F,F,F,F,F,F,F,F,F,F,F,F,F,F,F,F,F,F,F,F,F,F,F,F,F] rfl rfl ZA ZF (Or.inl ⟨by rfl, ?_⟩) ?_ ?_
         rotate_left
         ·exact Z15
         rotate_left
         ·exact Z1
         refine pure_ (i := 5) (N := some 17) (v := ?_) (a' := ?_) #[T,T,T,T,T,T,F,F,F,F,F,F,F,F,F,F,F,F,F,F,F,F,F,F,F,F,F,F,F,F,F,F] rfl rfl ZA ZF (Or.inl ⟨by rfl, ?_⟩) ?_ ?_
         rotate_left
         ·exact Z15
         rotate_left
         ·exact Z1
         refine take_ (i := 6) (N := some 18) (v := ?_) (a' := ?_) #[T,T,T,T,T,T,T,F,F,F,F,F,F,F,F,F,F,F,F,F,F,F,F,F,F,F,F,F,F,F,F,F] rfl rfl (take_ofW HT_.out HW_.out (by kernel_rfl)) ZF (Or.inl ⟨by rfl, ?_⟩) hHeld ?_ ?_
         rotate_left
         ·exact Z44
         rotate_left
         ·exact Z1
         refine pure_ (i := 7) (N := some 19) (v := ?_) (a' := ?_) #[T,T,T,T,T,T,T,T,F,F,F,F,F,F,F,F,F,F,F,F,F,F,F,F,F,F,F,F,F,F,F,F] rfl rfl ZA ZF (Or.inl ⟨by rfl, ?_⟩) ?_ ?_
         rotate_left
         ·exact Z15
         rotate_left
         ·exact Z1
         refine pure_ (i := 8) (N := some 20) (v := ?_) (a' := ?_) #[T,T,T,T,T,T,T,T,T,F,F,F,F,F,F,F,F,F,F,F,F,F,F,F,F,F,F,F,F,F,F,F] rfl rfl ZA ZF (Or.inl ⟨by rfl, ?_⟩) ?_ ?_
         rotate_left
         ·exact Z15
         rotate_left
         ·exact Z1
         refine pure_ (i := 9) (N := some 21) (v := ?_) (a' := ?_) #[T,T,T,T,T,T,T,T,T,T,F,F,F,F,F,F,F,F,F,F,F,F,F,F,F,F,F,F,F,F,F,F] rfl rfl ZA ZF (Or.inl ⟨by rfl, ?_⟩) ?_ ?_
         rotate_left
         ·exact Z15
         rotate_left
         ·exact Z1
         refine pure_ (i := 10) (N := some 22) (v := ?_) (a' := ?_) #[T,T,T,T,T,T,T,T,T,T,T,F,F,F,F,F,F,F,F,F,F,F,F,F,F,F,F,F,F,F,F,F] rfl rfl ZA ZF (Or.inl ⟨by rfl, ?_⟩) ?_ ?_
         rotate_left
         ·exact Z15
         rotate_left
         ·exact Z1
         refine pure_ (i := 11) (N := some 23) (v := ?_) (a' := ?_) #[T,T,T,T,T,T,T,T,T,T,T,T,F,F,F,F,F,F,F,F,F,F,F,F,F,F,F,F,F,F,F,F] rfl rfl ZA ZF (Or.inl ⟨by rfl, ?_⟩) ?_ ?_
         rotate_left
         ·exact Z15
         rotate_left
         ·exact Z1
         refine take_ (i := 12) (N := some 24) (v := ?_) (a' := ?_) #[T,T,T,T,T,T,T,T,T,T,T,T,T,F,F,F,F,F,F,F,F,F,F,F,F,F,F,F,F,F,F,F] rfl rfl (take_ofW HT_.out HW_.out (by kernel_rfl)) ZF (Or.inl ⟨by rfl, ?_⟩) hHeld ?_ ?_
         rotate_left
         ·exact Z44
         rotate_left
         ·exact Z1
         refine one_ (i := 13) (N := some 25) #[T,T,T,T,T,T,T,T,T,T,T,T,T,T,F,F,F,F,F,F,F,F,F,F,F,F,F,F,F,F,F,F] rfl rfl (one_of HT_.out (by kernel_rfl)) (by decide) (fun K hK => ?_)
         refine goes_ Try.func78 (by kernel_rfl) rfl #[.slice A303_1 ((rd_T89 l0 x7_1).f1).length c303_1] (by rfl) rfl rfl Z5 ?_
         with_reducible refine (impl_valsOk.calls k1 _ _ ((rd_T89 l0 x7_1).f1) false _ ?side1 ?side2 A13.out).mono ?_
         (case side1 => exact Z3 HR303_1.out)
         (case side2 => exact HC303_1.out)
         rintro e w46 ⟨rfl, hb⟩
         refine ⟨_, rfl, ?_⟩
         have n0_ := A_ (blk_below (g := gb304) (o := .cells #[.slice A303_0 ((rd_T89 l0 x7_1).f0).length c303_0, .slice A303_1 ((rd_T89 l0 x7_1).f1).length c303_1] 89 (0, 0)) (Z4 BK304.out) hb)
         have n1_ := A_ (below_step (Z2 GE304.out) hb)
         clear BK304
         clear HB
         have BK304 := n0_
         have HB := n1_
         clear n0_ n1_
         (try clear hb)
         (try clear hb2)
         (try clear hk)
         (try clear hi)
         refine hK.out _ _ ⟨(blk_cell BK304.out 0).trans rfl, (blk_cell BK304.out 1).trans rfl⟩ (fun hHeld => ?_)
         clear hK K
         refine norm_ (a' := ?_) ?_ ?_
         rotate_left
         ·exact Z29
         refine pure_ (i := 14) (N := some 26) (v := ?_) (a' := ?_) #[T,T,T,T,T,T,T,T,T,T,T,T,T,T,T,F,F,F,F,F,F,F,F,F,F,F,F,F,F,F,F,F] rfl rfl ZA ZF (Or.inl ⟨by rfl, ?_⟩) ?_ ?_
         rotate_left
         ·exact Z15
         rotate_left
         ·exact Z1
         refine pure_ (i := 15) (N := some 27) (v := ?_) (a' := ?_) #[T,T,T,T,T,T,T,T,T,T,T,T,T,T,T,T,F,F,F,F,F,F,F,F,F,F,F,F,F,F,F,F] rfl rfl ZA ZF (Or.inl ⟨by rfl, ?_⟩) ?_ ?_
         rotate_left
         ·exact Z15
         rotate_left
         ·exact Z1
         refine pure_ (i := 16) (N := some 28) (v := ?_) (a' := ?_) #[T,T,T,T,T,T,T,T,T,T,T,T,T,T,T,T,T,F,F,F,F,F,F,F,F,F,F,F,F,F,F,F] rfl rfl ZA ZF (Or.inl ⟨by rfl, ?_⟩) ?_ ?_
         rotate_left
         ·exact Z15
         rotate_left
         ·exact Z1
         refine pure_ (i := 17) (N := some 29) (v := undef) (a' := ?_) #[T,T,T,T,T,T,T,T,T,T,T,T,T,T,T,T,T,T,F,F,F,F,F,F,F,F,F,F,F,F,F,F] rfl rfl ZA ZF (Or.inr ⟨by rfl, rfl⟩) ?_ ?_
         rotate_left
         ·exact Z1
         refine pure_ (i := 18) (N := some 30) (v := undef) (a' := ?_) #[T,T,T,T,T,T,T,T,T,T,T,T,T,T,T,T,T,T,T,F,F,F,F,F,F,F,F,F,F,F,F,F] rfl rfl ZA ZF (Or.inr ⟨by rfl, rfl⟩) ?_ ?_
         rotate_left
         ·exact Z1
         refine pure_ (i := 19) (N := some 31) (v := undef) (a' := ?_) #[T,T,T,T,T,T,T,T,T,T,T,T,T,T,T,T,T,T,T,T,F,F,F,F,F,F,F,F,F,F,F,F] rfl rfl ZA ZF (Or.inr ⟨by rfl, rfl⟩) ?_ ?_
         rotate_left
         ·exact Z1
         refine pure_ (i := 20) (N := some 32) (v := undef) (a' := ?_) #[T,T,T,T,T,T,T,T,T,T,T,T,T,T,T,T,T,T,T,T,T,F,F,F,F,F,F,F,F,F,F,F] rfl rfl ZA ZF (Or.inr ⟨by rfl, rfl⟩) ?_ ?_
         rotate_left
         ·exact Z1
         refine pure_ (i := 21) (N := some 33) (v := undef) (a' := ?_) #[T,T,T,T,T,T,T,T,T,T,T,T,T,T,T,T,T,T,T,T,T,T,F,F,F,F,F,F,F,F,F,F] rfl rfl ZA ZF (Or.inr ⟨by rfl, rfl⟩) ?_ ?_
         rotate_left
         ·exact Z1
         refine pure_ (i := 22) (N := some 34) (v := undef) (a' := ?_) #[T,T,T,T,T,T,T,T,T,T,T,T,T,T,T,T,T,T,T,T,T,T,T,F,F,F,F,F,F,F,F,F] rfl rfl ZA ZF (Or.inr ⟨by rfl, rfl⟩) ?_ ?_
         rotate_left
         ·exact Z1
         refine pure_ (i := 23) (N := some 35) (v := undef) (a' := ?_) #[T,T,T,T,T,T,T,T,T,T,T,T,T,T,T,T,T,T,T,T,T,T,T,T,F,F,F,F,F,F,F,F] rfl rfl ZA ZF (Or.inr ⟨by rfl, rfl⟩) ?_ ?_
         rotate_left
         ·exact Z1
         refine pure_ (i := 24) (N := some 36) (v := undef) (a' := ?_) #[T,T,T,T,T,T,T,T,T,T,T,T,T,T,T,T,T,T,T,T,T,T,T,T,T,F,F,F,F,F,F,F] rfl rfl ZA ZF (Or.inr ⟨by rfl, rfl⟩) ?_ ?_
         rotate_left
         ·exact Z1
         refine pure_ (i := 25) (N := some 37) (v := undef) (a' := ?_) #[T,T,T,T,T,T,T,T,T,T,T,T,T,T,T,T,T,T,T,T,T,T,T,T,T,T,F,F,F,F,F,F] rfl rfl ZA ZF (Or.inr ⟨by rfl, rfl⟩) ?_ ?_
         rotate_left
         ·exact Z1
         refine pure_ (i := 26) (N := some 38) (v := undef) (a' := ?_) #[T,T,T,T,T,T,T,T,T,T,T,T,T,T,T,T,T,T,T,T,T,T,T,T,T,T,T,F,F,F,F,F] rfl rfl ZA ZF (Or.inr ⟨by rfl, rfl⟩) ?_ ?_
         rotate_left
         ·exact Z1
         refine pure_ (i := 27) (N := some 39) (v := undef) (a' := ?_) #[T,T,T,T,T,T,T,T,T,T,T,T,T,T,T,T,T,T,T,T,T,T,T,T,T,T,T,T,F,F,F,F] rfl rfl ZA ZF (Or.inr ⟨by rfl, rfl⟩) ?_ ?_
         rotate_left
         ·exact Z1
         refine pure_ (i := 28) (N := some 40) (v := undef) (a' := ?_) #[T,T,T,T,T,T,T,T,T,T,T,T,T,T,T,T,T,T,T,T,T,T,T,T,T,T,T,T,T,F,F,F] rfl rfl ZA ZF (Or.inr ⟨by rfl, rfl⟩) ?_ ?_
         rotate_left
         ·exact Z1
         refine pure_ (i := 29) (N := some 41) (v := undef) (a' := ?_) #[T,T,T,T,T,T,T,T,T,T,T,T,T,T,T,T,T,T,T,T,T,T,T,T,T,T,T,T,T,T,F,F] rfl rfl ZA ZF (Or.inr ⟨by rfl, rfl⟩) ?_ ?_
         rotate_left
         ·exact Z1
         refine pure_ (i := 30) (N := some 42) (v := undef) (a' := ?_) #[T,T,T,T,T,T,T,T,T,T,T,T,T,T,T,T,T,T,T,T,T,T,T,T,T,T,T,T,T,T,T,F] rfl rfl ZA ZF (Or.inr ⟨by rfl, rfl⟩) ?_ ?_
         rotate_left
         ·exact Z1
         refine pure_ (i := 31) (N := some 43) (v := ?_) (a' := ?_) #[T,T,T,T,T,T,T,T,T,T,T,T,T,T,T,T,T,T,T,T,T,T,T,T,T,T,T,T,T,T,T,T] rfl rfl ZA ZF (Or.inl ⟨by rfl, ?_⟩) ?_ ?_
         rotate_left
         ·exact Z15
         rotate_left
         ·exact Z1
         refine done_ (done_of HT_.out (by kernel_rfl)) ?_
         try go_wp2
         go_ret
         exact ⟨Z14, Z2 GE304.out⟩
      ·replace c6 := Bool.eq_false_iff.mpr c6
       subst c6
       have H1 : (some false) = some r := by rw [if_neg (show ¬ (false = true) by decide)] at H; exact H
       clear H
       have H := H1
       clear H1
       obtain rfl := Option.some.inj H
       have p303 : 0 ≤ (x7_1 : Int) := of_decide_eq_true Z13
       have q303 : x7_1 < (l0.length : Int) := of_decide_eq_true Z13
       obtain ⟨ad303, A303_0, c303_0, A303_1, c303_1, e303, hx303_0, hx303_1, hl303_0, hi303_0, hl303_1, hi303_1⟩ := at_T89 HR0.out x7_1 p303 q303
       cases e303
       replace hx303_0 := ZC HB.out hx303_0
       replace hx303_1 := ZC HB.out hx303_1
       have HR303_0 := A_ hi303_0
       have HC303_0 := A_ hl303_0
       clear hi303_0 hl303_0
       have HR303_1 := A_ hi303_1
       have HC303_1 := A_ hl303_1
       clear hi303_1 hl303_1
       replace p303 := eq_true p303
       replace q303 := eq_true q303
       try go_wp2_with (first | ((with_reducible refine gate_dst (N := 4) rfl ?_); (try (refine gate_guard (by rfl) ?_; dsimp only)); refine box_event ?hg (N := 4) ?hd (cs := #[.slice none 0 0, .slice none 0 0]) (t := 89) ?hr ?_; (case hd => rfl); (case hg => rfl); (case hr => exact Z20); intro gb304 hg w47 hbox hb; have n0_ := A_ (below_step Z0 hb); have n1_ := A_ (hbox); have n2_ := A_ ((by rw [hg]; exact (below_size Z0) : w.heap.size ≤ gb304)); have n3_ := A_ ((by rw [hg]; exact (below_size Z0) : w.heap.size ≤ gb304)); clear HB; have HB := n0_; have BK304 := n1_; have GW304 := n2_; have GE304 := n3_; clear n0_ n1_ n2_ n3_; clear hb hbox hg; have hcz48_0 : w47.cell? ⟨gb304, 0, none⟩ = some (.slice none 0 0) := (blk_cell BK304.out 0).trans rfl; have hcz48_1 : w47.cell? ⟨gb304, 1, none⟩ = some (.slice none 0 0) := (blk_cell BK304.out 1).trans rfl; have hfz48_0 := blk_frozen BK304.out 0; have hfz48_1 := blk_frozen BK304.out 1))
       have n0_ : Aside0 (((w47.setCell ⟨gb304, 0, none⟩ (.slice A303_0 ((rd_T89 l0 x7_1).f0).length c303_0)).setCell ⟨gb304, 1, none⟩ (.slice A303_1 ((rd_T89 l0 x7_1).f1).length c303_1)).heap[gb304]? = some (.cells #[.slice A303_0 ((rd_T89 l0 x7_1).f0).length c303_0, .slice A303_1 ((rd_T89 l0 x7_1).f1).length c303_1] 89 (0, 0))) := ⟨Z21 BK304.out⟩
       have n1_ : Aside0 (Below w.heap.size w ((w47.setCell ⟨gb304, 0, none⟩ (.slice A303_0 ((rd_T89 l0 x7_1).f0).length c303_0)).setCell ⟨gb304, 1, none⟩ (.slice A303_1 ((rd_T89 l0 x7_1).f1).length c303_1))) := ⟨Z2 GE304.out⟩
       (try clear BK304)
       (try clear HB)
       generalize ((w47.setCell ⟨gb304, 0, none⟩ (.slice A303_0 ((rd_T89 l0 x7_1).f0).length c303_0)).setCell ⟨gb304, 1, none⟩ (.slice A303_1 ((rd_T89 l0 x7_1).f1).length c303_1)) = w49 at n0_ n1_ ⊢
       have BK304 := n0_
       have HB := n1_
       clear n0_ n1_
       have n0_ := A_ (blk_drew BK304.out)
       have n1_ := A_ (below_drew1 HB.out)
       clear BK304
       clear HB
       have BK304 := n0_
       have HB := n1_
       clear n0_ n1_
       refine start_ (n := 32) (S := fun w' => w'.cell? ⟨gb304, 0, none⟩ = some (.slice A303_0 ((rd_T89 l0 x7_1).f0).length c303_0) ∧ w'.cell? ⟨gb304, 1, none⟩ = some (.slice A303_1 ((rd_T89 l0 x7_1).f1).length c303_1)) (ds := []) #[F,F,F,F,F,F,F,F,F,F,F,F,F,F,F,F,F,F,F,F,F,F,F,F,F,F,F,F,F,F,F,F] (by kernel_rfl) rfl rfl ⟨(blk_cell BK304.out 0).trans rfl, (blk_cell BK304.out 1).trans rfl⟩ (fun hHeld => ?_); refine with_tabW impl_StoreOk.tab4 impl_StoreOk.bits4 (fun HT_ HW_ => ?_)
       generalize w49.drew = w50 at BK304 HB hHeld ⊢
       refine pure_ (i := 0) (N := some 12) (v := ?_) (a' := ?_) #[T,F,F,F,F,F,F,F,F,F,F,F,F,F,F,F,F,F,F,F,F,F,F,F,F,F,F,F,F,F,F,F] rfl rfl ZA ZF (Or.inl ⟨by rfl, ?_⟩) ?_ ?_
       rotate_left
       ·exact Z15
       rotate_left
       ·exact Z1
       refine take_ (i := 1) (N := some 13) (v := ?_) (a' := ?_) #[T,T,F,F,F,F,F,F,F,F,F,F,F,F,F,F,F,F,F,F,F,F,F,F,F,F,F,F,F,F,F,F] rfl rfl (take_ofW HT_.out HW_.out (by kernel_rfl)) ZF (Or.inl ⟨by rfl, ?_⟩) hHeld ?_ ?_
       rotate_left
       ·exact Z44
       rotate_left
       ·exact Z1
       refine one_ (i := 2) (N := some 14) #[T,T,T,F,F,F,F,F,F,F,F,F,F,F,F,F,F,F,F,F,F,F,F,F,F,F,F,F,F,F,F,F] rfl rfl (one_of HT_.out (by kernel_rfl)) (by decide) (fun K hK => ?_)
       refine goes_ Try.func53 (by kernel_rfl) rfl #[.slice A303_0 ((rd_T89 l0 x7_1).f0).length c303_0] (by rfl) rfl rfl Z5 ?_
       with_reducible refine (impl_PlaceOk.calls k1 _ _ ((rd_T89 l0 x7_1).f0) false _ ?side1 ?side2 A5.out).mono ?_
       (case side1 => exact Z3 HR303_0.out)
       (case side2 => exact HC303_0.out)
       rintro e w51 ⟨rfl, hb⟩
       refine ⟨_, rfl, ?_⟩
       have n0_ := A_ (blk_below (g := gb304) (o := .cells #[.slice A303_0 ((rd_T89 l0 x7_1).f0).length c303_0, .slice A303_1 ((rd_T89 l0 x7_1).f1).length c303_1] 89 (0, 0)) (Z4 BK304.out) hb)
       have n1_ := A_ (below_step (Z2 GE304.out) hb)
       clear BK304
       clear HB
       have BK304 := n0_
       have HB := n1_
       clear n0_ n1_
       (try clear hb)
       (try clear hb2)
       (try clear hk)
       (try clear hi)
       refine hK.out _ _ ⟨(blk_cell BK304.out 0).trans rfl, (blk_cell BK304.out 1).trans rfl⟩ (fun hHeld => ?_)
       clear hK K
       refine norm_ (a' := ?_) ?_ ?_
       rotate_left
       ·exact Z35
       refine pure_ (i := 3) (N := some 15) (v := ?_) (a' := ?_) #[T,T,T,T,F,F,F,F,F,F,F,F,F,F,F,F,F,F,F,F,F,F,F,F,F,F,F,F,F,F,F,F] rfl rfl ZA ZF (Or.inl ⟨by rfl, ?_⟩) ?_ ?_
       rotate_left
       ·exact Z15
       rotate_left
       ·exact Z1
       refine pure_ (i := 4) (N := some 16) (v := ?_) (a' := ?_) #[T,T,T,T,T,F,F,F,F,F,F,F,F,F,F,F,F,F,F,F,F,F,F,F,F,F,F,F,F,F,F,F] rfl rfl ZA ZF (Or.inl ⟨by rfl, ?_⟩) ?_ ?_
       rotate_left
       ·exact Z15
       rotate_left
       ·exact Z1
       refine pure_ (i := 5) (N := some 17) (v := undef) (a' := ?_) #[T,T,T,T,T,T,F,F,F,F,F,F,F,F,F,F,F,F,F,F,F,F,F,F,F,F,F,F,F,F,F,F] rfl rfl ZA ZF (Or.inr ⟨by rfl, rfl⟩) ?_ ?_
       rotate_left
       ·exact Z1
       refine pure_ (i := 6) (N := some 18) (v := undef) (a' := ?_) #[T,T,T,T,T,T,T,F,F,F,F,F,F,F,F,F,F,F,F,F,F,F,F,F,F,F,F,F,F,F,F,F] rfl rfl ZA ZF (Or.inr ⟨by rfl, rfl⟩) ?_ ?_
       rotate_left
       ·exact Z1
       refine pure_ (i := 7) (N := some 19) (v := undef) (a' := ?_) #[T,T,T,T,T,T,T,T,F,F,F,F,F,F,F,F,F,F,F,F,F,F,F,F,F,F,F,F,F,F,F,F] rfl rfl ZA ZF (Or.inr ⟨by rfl, rfl⟩) ?_ ?_
       rotate_left
       ·exact Z1
       refine pure_ (i := 8) (N := some 20) (v := undef) (a' := ?_) #[T,T,T,T,T,T,T,T,T,F,F,F,F,F,F,F,F,F,F,F,F,F,F,F,F,F,F,F,F,F,F,F] rfl rfl ZA ZF (Or.inr ⟨by rfl, rfl⟩) ?_ ?_
       rotate_left
       ·exact Z1
       refine pure_ (i := 9) (N := some 21) (v := ?_) (a' := ?_) #[T,T,T,T,T,T,T,T,T,T,F,F,F,F,F,F,F,F,F,F,F,F,F,F,F,F,F,F,F,F,F,F] rfl rfl ZA ZF (Or.inl ⟨by rfl, ?_⟩) ?_ ?_
       rotate_left
       ·exact Z15
       rotate_left
       ·exact Z1
       refine pure_ (i := 10) (N := some 22) (v := ?_) (a' := ?_) #[T,T,T,T,T,T,T,T,T,T,T,F,F,F,F,F,F,F,F,F,F,F,F,F,F,F,F,F,F,F,F,F] rfl rfl ZA ZF (Or.inl ⟨by rfl, ?_⟩) ?_ ?_
       rotate_left
       ·exact Z15
       rotate_left
       ·exact Z1
       refine pure_ (i := 11) (N := some 23) (v := undef) (a' := ?_) #[T,T,T,T,T,T,T,T,T,T,T,T,F,F,F,F,F,F,F,F,F,F,F,F,F,F,F,F,F,F,F,F] rfl rfl ZA ZF (Or.inr ⟨by rfl, rfl⟩) ?_ ?_
       rotate_left
       ·exact Z1
       refine pure_ (i := 12) (N := some 24) (v := undef) (a' := ?_) #[T,T,T,T,T,T,T,T,T,T,T,T,T,F,F,F,F,F,F,F,F,F,F,F,F,F,F,F,F,F,F,F] rfl rfl ZA ZF (Or.inr ⟨by rfl, rfl⟩) ?_ ?_
       rotate_left
       ·exact Z1
       refine pure_ (i := 13) (N := some 25) (v := undef) (a' := ?_) #[T,T,T,T,T,T,T,T,T,T,T,T,T,T,F,F,F,F,F,F,F,F,F,F,F,F,F,F,F,F,F,F] rfl rfl ZA ZF (Or.inr ⟨by rfl, rfl⟩) ?_ ?_
       rotate_left
       ·exact Z1
       refine pure_ (i := 14) (N := some 26) (v := undef) (a' := ?_) #[T,T,T,T,T,T,T,T,T,T,T,T,T,T,T,F,F,F,F,F,F,F,F,F,F,F,F,F,F,F,F,F] rfl rfl ZA ZF (Or.inr ⟨by rfl, rfl⟩) ?_ ?_
       rotate_left
       ·exact Z1
       refine pure_ (i := 15) (N := some 27) (v := ?_) (a' := ?_) #[T,T,T,T,T,T,T,T,T,T,T,T,T,T,T,T,F,F,F,F,F,F,F,F,F,F,F,F,F,F,F,F] rfl rfl ZA ZF (Or.inl ⟨by rfl, ?_⟩) ?_ ?_
       rotate_left
       ·exact Z15
       rotate_left
       ·exact Z1
       refine pure_ (i := 16) (N := some 28) (v := ?_) (a' := ?_) #[T,T,T,T,T,T,T,T,T,T,T,T,T,T,T,T,T,F,F,F,F,F,F,F,F,F,F,F,F,F,F,F] rfl rfl ZA ZF (Or.inl ⟨by rfl, ?_⟩) ?_ ?_
       rotate_left
       ·exact Z15
       rotate_left
       ·exact Z1
       refine pure_ (i := 17) (N := some 29) (v := undef) (a' := ?_) #[T,T,T,T,T,T,T,T,T,T,T,T,T,T,T,T,T,T,F,F,F,F,F,F,F,F,F,F,F,F,F,F] rfl rfl ZA ZF (Or.inr ⟨by rfl, rfl⟩) ?_ ?_
       rotate_left
       ·exact Z1
       refine pure_ (i := 18) (N := some 30) (v := undef) (a' := ?_) #[T,T,T,T,T,T,T,T,T,T,T,T,T,T,T,T,T,T,T,F,F,F,F,F,F,F,F,F,F,F,F,F] rfl rfl ZA ZF (Or.inr ⟨by rfl, rfl⟩) ?_ ?_
       rotate_left
       ·exact Z1
       refine pure_ (i := 19) (N := some 31) (v := undef) (a' := ?_) #[T,T,T,T,T,T,T,T,T,T,T,T,T,T,T,T,T,T,T,T,F,F,F,F,F,F,F,F,F,F,F,F] rfl rfl ZA ZF (Or.inr ⟨by rfl, rfl⟩) ?_ ?_
       rotate_left
       ·exact Z1
       refine pure_ (i := 20) (N := some 32) (v := undef) (a' := ?_) #[T,T,T,T,T,T,T,T,T,T,T,T,T,T,T,T,T,T,T,T,T,F,F,F,F,F,F,F,F,F,F,F] rfl rfl ZA ZF (Or.inr ⟨by rfl, rfl⟩) ?_ ?_
       rotate_left
       ·exact Z1
       refine pure_ (i := 21) (N := some 33) (v := undef) (a' := ?_) #[T,T,T,T,T,T,T,T,T,T,T,T,T,T,T,T,T,T,T,T,T,T,F,F,F,F,F,F,F,F,F,F] rfl rfl ZA ZF (Or.inr ⟨by rfl, rfl⟩) ?_ ?_
       rotate_left
       ·exact Z1
       refine pure_ (i := 22) (N := some 34) (v := undef) (a' := ?_) #[T,T,T,T,T,T,T,T,T,T,T,T,T,T,T,T,T,T,T,T,T,T,T,F,F,F,F,F,F,F,F,F] rfl rfl ZA ZF (Or.inr ⟨by rfl, rfl⟩) ?_ ?_
       rotate_left
       ·exact Z1
       refine pure_ (i := 23) (N := some 35) (v := undef) (a' := ?_) #[T,T,T,T,T,T,T,T,T,T,T,T,T,T,T,T,T,T,T,T,T,T,T,T,F,F,F,F,F,F,F,F] rfl rfl ZA ZF (Or.inr ⟨by rfl, rfl⟩) ?_ ?_
       rotate_left
       ·exact Z1
       refine pure_ (i := 24) (N := some 36) (v := undef) (a' := ?_) #[T,T,T,T,T,T,T,T,T,T,T,T,T,T,T,T,T,T,T,T,T,T,T,T,T,F,F,F,F,F,F,F] rfl rfl ZA ZF (Or.inr ⟨by rfl, rfl⟩) ?_ ?_
       rotate_left
       ·exact Z1
       refine pure_ (i := 25) (N := some 37) (v := undef) (a' := ?_) #[T,T,T,T,T,T,T,T,T,T,T,T,T,T,T,T,T,T,T,T,T,T,T,T,T,T,F,F,F,F,F,F] rfl rfl ZA ZF (Or.inr ⟨by rfl, rfl⟩) ?_ ?_
       rotate_left
       ·exact Z1
       refine pure_ (i := 26) (N := some 38) (v := undef) (a' := ?_) #[T,T,T,T,T,T,T,T,T,T,T,T,T,T,T,T,T,T,T,T,T,T,T,T,T,T,T,F,F,F,F,F] rfl rfl ZA ZF (Or.inr ⟨by rfl, rfl⟩) ?_ ?_
       rotate_left
       ·exact Z1
       refine pure_ (i := 27) (N := some 39) (v := undef) (a' := ?_) #[T,T,T,T,T,T,T,T,T,T,T,T,T,T,T,T,T,T,T,T,T,T,T,T,T,T,T,T,F,F,F,F] rfl rfl ZA ZF (Or.inr ⟨by rfl, rfl⟩) ?_ ?_
       rotate_left
       ·exact Z1
       refine pure_ (i := 28) (N := some 40) (v := undef) (a' := ?_) #[T,T,T,T,T,T,T,T,T,T,T,T,T,T,T,T,T,T,T,T,T,T,T,T,T,T,T,T,T,F,F,F] rfl rfl ZA ZF (Or.inr ⟨by rfl, rfl⟩) ?_ ?_
       rotate_left
       ·exact Z1
       refine pure_ (i := 29) (N := some 41) (v := undef) (a' := ?_) #[T,T,T,T,T,T,T,T,T,T,T,T,T,T,T,T,T,T,T,T,T,T,T,T,T,T,T,T,T,T,F,F] rfl rfl ZA ZF (Or.inr ⟨by rfl, rfl⟩) ?_ ?_
       rotate_left
       ·exact Z1
       refine pure_ (i := 30) (N := some 42) (v := undef) (a' := ?_) #[T,T,T,T,T,T,T,T,T,T,T,T,T,T,T,T,T,T,T,T,T,T,T,T,T,T,T,T,T,T,T,F] rfl rfl ZA ZF (Or.inr ⟨by rfl, rfl⟩) ?_ ?_
       rotate_left
       ·exact Z1
       refine pure_ (i := 31) (N := some 43) (v := ?_) (a' := ?_) #[T,T,T,T,T,T,T,T,T,T,T,T,T,T,T,T,T,T,T,T,T,T,T,T,T,T,T,T,T,T,T,T] rfl rfl ZA ZF (Or.inl ⟨by rfl, ?_⟩) ?_ ?_
       rotate_left
       ·exact Z15
       rotate_left
       ·exact Z1
       refine done_ (done_of HT_.out (by kernel_rfl)) ?_
       try go_wp2
       go_ret
       exact ⟨Z14, Z2 GE304.out⟩
     ·exact Z45
    ·rw [if_neg c3] at H
     exact absurd H (by simp)
   ·rw [if_neg c2] at H
    have c2b0 : decide (x7_1 < (l0.length : Int)) = false := decide_eq_false c2
    clear c2
    obtain rfl := Option.some.inj H
    go_wp2
    go_ret
    exact ⟨Z14, Z0⟩
end Go.Proofs.Ytpadhphdglbciaa.PFnExactStorePut
