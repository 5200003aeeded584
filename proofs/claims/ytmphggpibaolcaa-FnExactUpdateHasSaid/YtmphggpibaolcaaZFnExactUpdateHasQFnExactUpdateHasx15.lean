/- Walks of the functions that the law 'FnExactUpdateHas' reaches, part 15: for each a Lean function and the proof that Go's comes to just its answer (lines of the print, under own names; no condition). -/
import Derived.Test.YtmphggpibaolcaaZFnExactUpdateHasQFnExactUpdateHasx0
import Derived.Test.YtmphggpibaolcaaZFnExactUpdateHasQFnExactUpdateHasx13
import Derived.Test.YtmphggpibaolcaaZFnExactUpdateHasQFnExactUpdateHasx14
namespace Go.Proofs.Ytmphggpibaolcaa.PFnExactUpdateHas
open Go.RowKit Go.Proofs.YtmphggpibaolcaaW.PrintWords Go.Proofs.YtmphggpibaolcaaW.PrintLast Go.Proofs.YtmphggpibaolcaaW.PrintMore
attribute [local go_sem] max2_int min2_int max_two min_two max_three min_three max_four min_four
set_option linter.unusedVariables false
set_option linter.unusedSimpArgs false
def impl_updateAt.f (k : Nat) (l0 : List (S95)) (l1_0 : List (S121)) (a1_1 : Int) (l1_2 : List (S126)) (a1_3 : Int) : Option (Int) := (impl_storeFind.f k l0 l1_0).bind fun t282 => (if t282 < 0 then (some (-1)) else (if 0 ≤ t282 then (if t282 < (l0.length : Int) then (if a1_1 ≥ (((rd_T95 l0 t282).f1).length : Int) then (some (-1)) else ((impl_formFits.f k l1_2 0 (((rd_T95 l0 t282).f1).length : Int) 0).bind fun t285 => (if t285 = true then (some t282) else (some (-1))))) else (none)) else (none)))
theorem impl_updateAt.mono : ∀ a0 a1 a2 a3 a4 k, LeO (impl_updateAt.f k a0 a1 a2 a3 a4) (impl_updateAt.f (k + 1) a0 a1 a2 a3 a4) := by
 intro a0 a1 a2 a3 a4 k
 unfold impl_updateAt.f
 repeat' first
   | (with_reducible exact impl_formFits.mono _ _ _ _ _)
   | (with_reducible exact impl_storeFind.mono _ _ _)
   | (with_reducible exact LeO.refl _)
   | (with_reducible exact LeO.none _)
   | (with_reducible refine LeO.ite ?_ ?_)
   | (with_reducible refine LeO.bind ?_ (fun _ => ?_))
   | exact impl_formFits.mono _ _ _ _ _
   | exact impl_storeFind.mono _ _ _
   | exact LeO.none _
   | refine LeO.ite ?_ ?_
   | refine LeO.bind ?_ (fun _ => ?_)
def impl_updateAt.T2 : Bool × List (List Nat × List Nat) := (true, [([], []), ([0], [0]), ([1], [1]), ([2], [2]), ([3, 2], [2, 3]), ([2], [2]), ([2], [2]), ([5, 6, 2], [2, 5, 6]), ([7, 2], [2, 7]), ([8, 2], [2, 8]), ([9, 2], [2, 9]), ([4, 10, 2], [2, 4, 10]), ([2, 11], [2, 11]), ([12, 2], [12]), ([13], [13]), ([14, 13], [13, 14]), ([13], [13]), ([13], [13]), ([16, 17, 13], [13, 16, 17]), ([18, 13], [13, 18]), ([19, 13], [13, 19]), ([20, 13], [13, 20]), ([15, 21, 13, 13], [13, 15, 21]), ([22, 13], [13, 22]), ([13, 23], [13, 23])])
def impl_updateAt.B2 : List Nat := [0, 1, 3, 7, 15, 7, 7, 103, 231, 487, 999, 2047, 4095, 8191, 16383, 32767, 16383, 16383, 212991, 475135, 999423, 2047999, 4194303, 8388607, 16777215]
theorem impl_updateAt.tab2 : rtab .any (opsOf Try.f55 2) = impl_updateAt.T2 := by kernel_rfl
theorem impl_updateAt.bits2 : waitsOk impl_updateAt.T2.2 impl_updateAt.B2 = true := by kernel_rfl
set_option maxHeartbeats 8000000 in
set_option maxRecDepth 100000 in
theorem impl_updateAt.calls (k : Nat) (A0 : Option Addr) (c0 : Nat) (l0 : List (S95)) (A1_0 : Option Addr) (c1_0 : Nat) (l1_0 : List (S121)) (a1_1 : Int) (A1_2 : Option Addr) (c1_2 : Nat) (l1_2 : List (S126)) (a1_3 : Int) (r : Int) (w : World) (hr0 : Kd.C k95 w A0 l0.length l0) (hc0 : l0.length ≤ c0) (hr1_0 : Kd.C k121 w A1_0 l1_0.length l1_0) (hc1_0 : l1_0.length ≤ c1_0) (hr1_2 : Kd.C k126 w A1_2 l1_2.length l1_2) (hc1_2 : l1_2.length ≤ c1_2) (h : impl_updateAt.f k l0 l1_0 a1_1 l1_2 a1_3 = some r) :
  Calls Try.prog 55 #[.slice A0 l0.length c0, .agg #[.slice A1_0 l1_0.length c1_0, .int .i64 a1_1, .slice A1_2 l1_2.length c1_2, .int .i64 a1_3]] w fun e w' => e = .returned (.int .i64 r) ∧ Below w.heap.size w w' := by
 have hu53 := Try.underlying53
 have HR0 := A_ hr0
 have HC0 := A_ hc0
 clear hr0 hc0
 have HR1_0 := A_ hr1_0
 have HC1_0 := A_ hc1_0
 clear hr1_0 hc1_0
 have HR1_2 := A_ hr1_2
 have HC1_2 := A_ hc1_2
 clear hr1_2 hc1_2
 have HB := A_ (Below.refl w.heap.size w)
 have H : ((impl_storeFind.f k l0 l1_0).bind fun t282 => (if t282 < 0 then (some (-1)) else (if 0 ≤ t282 then (if t282 < (l0.length : Int) then (if a1_1 ≥ (((rd_T95 l0 t282).f1).length : Int) then (some (-1)) else ((impl_formFits.f k l1_2 0 (((rd_T95 l0 t282).f1).length : Int) 0).bind fun t285 => (if t285 = true then (some t282) else (some (-1))))) else (none)) else (none)))) = some r := h
 clear h
 replace H := Option.bind_eq_some_iff.mp H
 obtain ⟨t282, A30, H⟩ := H
 replace H : (if t282 < 0 then (some (-1)) else (if 0 ≤ t282 then (if t282 < (l0.length : Int) then (if a1_1 ≥ (((rd_T95 l0 t282).f1).length : Int) then (some (-1)) else ((impl_formFits.f k l1_2 0 (((rd_T95 l0 t282).f1).length : Int) 0).bind fun t285 => (if t285 = true then (some t282) else (some (-1))))) else (none)) else (none))) = some r := H
 have A3 := A_ A30
 clear A30
 by_cases c4 : t282 < 0
 ·rw [if_pos c4] at H
  have c4b0 : decide (t282 < 0) = true := decide_eq_true c4
  clear c4
  obtain rfl := Option.some.inj H
  go_enter Try.func55, Try.ntmps55
  try go_wp2_with (first | ((with_reducible refine gate_dst (N := 3) rfl ?_); (try (refine gate_guard (by rfl) ?_; dsimp only)); refine box_event ?hg (N := 3) ?hd (cs := #[.slice A1_0 l1_0.length c1_0, .int .i64 a1_1, .slice A1_2 l1_2.length c1_2, .int .i64 a1_3]) (t := 53) ?hr ?_; (case hd => rfl); (case hg => rfl); (case hr => exact Z16); intro gb281 hg w5 hbox hb; have n0_ := A_ (below_step Z1 hb); have n1_ := A_ (hbox); have n2_ := A_ ((by rw [hg]; exact (below_size Z1) : w.heap.size ≤ gb281)); have n3_ := A_ ((by rw [hg]; exact (below_size Z1) : w.heap.size ≤ gb281)); clear HB; have HB := n0_; have BK281 := n1_; have GW281 := n2_; have GE281 := n3_; clear n0_ n1_ n2_ n3_; clear hb hbox hg; have hcz6_0 : w5.cell? ⟨gb281, 0, none⟩ = some (.slice A1_0 l1_0.length c1_0) := (blk_cell BK281.out 0).trans rfl; have hcz6_1 : w5.cell? ⟨gb281, 1, none⟩ = some (.int .i64 a1_1) := (blk_cell BK281.out 1).trans rfl; have hcz6_2 : w5.cell? ⟨gb281, 2, none⟩ = some (.slice A1_2 l1_2.length c1_2) := (blk_cell BK281.out 2).trans rfl; have hcz6_3 : w5.cell? ⟨gb281, 3, none⟩ = some (.int .i64 a1_3) := (blk_cell BK281.out 3).trans rfl; have hfz6_0 := blk_frozen BK281.out 0; have hfz6_1 := blk_frozen BK281.out 1; have hfz6_2 := blk_frozen BK281.out 2; have hfz6_3 := blk_frozen BK281.out 3) | ((with_reducible refine gate_callee (f := 83) rfl ?_); refine goesL_ (some 9) rfl rfl Try.func83 (by kernel_rfl) rfl #[.slice A0 l0.length c0, .slice A1_0 l1_0.length c1_0] rfl Z5 ?_; (with_reducible refine (impl_storeFind.calls k _ _ l0 _ _ l1_0 t282 _ ?side1 ?side2 ?side3 ?side4 A3.out).mono ?_); (case side1 => exact Z4 HR0.out); (case side2 => exact HC0.out); (case side3 => exact Z4 HR1_0.out); (case side4 => exact HC1_0.out); rintro e w7 ⟨rfl, hb⟩; refine ⟨_, rfl, ?_⟩; have n0_ := A_ (blk_below (g := gb281) (o := .cells #[.slice A1_0 l1_0.length c1_0, .int .i64 a1_1, .slice A1_2 l1_2.length c1_2, .int .i64 a1_3] 53 (0, 0)) (Z3 BK281.out) hb); have n1_ := A_ (below_step (Z2 GE281.out) hb); clear BK281; clear HB; have BK281 := n0_; have HB := n1_; clear n0_ n1_; (try clear hb); (try clear hb2); (try clear hk); (try clear hi)))
  have n0_ := A_ (blk_drew BK281.out)
  have n1_ := A_ (below_drew1 HB.out)
  clear BK281
  clear HB
  have BK281 := n0_
  have HB := n1_
  clear n0_ n1_
  refine start_ (n := 25) (S := fun w' => True) (ds := []) #[F,F,F,F,F,F,F,F,F,F,F,F,F,F,F,F,F,F,F,F,F,F,F,F,F] (by kernel_rfl) rfl rfl trivial (fun hHeld => ?_); refine with_tabW impl_updateAt.tab2 impl_updateAt.bits2 (fun HT_ HW_ => ?_)
  generalize w7.drew = w8 at BK281 HB hHeld ⊢
  refine pure_ (i := 0) (N := some 10) (v := ?_) (a' := ?_) #[T,F,F,F,F,F,F,F,F,F,F,F,F,F,F,F,F,F,F,F,F,F,F,F,F] rfl rfl ZA ZF (Or.inl ⟨by rfl, ?_⟩) ?_ ?_
  rotate_left
  ·exact Z13
  rotate_left
  ·exact Z0
  refine pure_ (i := 1) (N := some 11) (v := ?_) (a' := ?_) #[T,T,F,F,F,F,F,F,F,F,F,F,F,F,F,F,F,F,F,F,F,F,F,F,F] rfl rfl ZA ZF (Or.inl ⟨by rfl, ?_⟩) ?_ ?_
  rotate_left
  ·exact Z13
  rotate_left
  ·exact Z0
  refine pure_ (i := 2) (N := some 12) (v := ?_) (a' := ?_) #[T,T,T,F,F,F,F,F,F,F,F,F,F,F,F,F,F,F,F,F,F,F,F,F,F] rfl rfl ZA ZF (Or.inl ⟨by rfl, ?_⟩) ?_ ?_
  rotate_left
  ·exact Z13
  rotate_left
  ·exact Z0
  refine pure_ (i := 3) (N := some 13) (v := undef) (a' := ?_) #[T,T,T,T,F,F,F,F,F,F,F,F,F,F,F,F,F,F,F,F,F,F,F,F,F] rfl rfl ZA ZF (Or.inr ⟨by rfl, rfl⟩) ?_ ?_
  rotate_left
  ·exact Z0
  refine pure_ (i := 4) (N := some 14) (v := undef) (a' := ?_) #[T,T,T,T,T,F,F,F,F,F,F,F,F,F,F,F,F,F,F,F,F,F,F,F,F] rfl rfl ZA ZF (Or.inr ⟨by rfl, rfl⟩) ?_ ?_
  rotate_left
  ·exact Z0
  refine pure_ (i := 5) (N := some 15) (v := undef) (a' := ?_) #[T,T,T,T,T,T,F,F,F,F,F,F,F,F,F,F,F,F,F,F,F,F,F,F,F] rfl rfl ZA ZF (Or.inr ⟨by rfl, rfl⟩) ?_ ?_
  rotate_left
  ·exact Z0
  refine pure_ (i := 6) (N := some 16) (v := undef) (a' := ?_) #[T,T,T,T,T,T,T,F,F,F,F,F,F,F,F,F,F,F,F,F,F,F,F,F,F] rfl rfl ZA ZF (Or.inr ⟨by rfl, rfl⟩) ?_ ?_
  rotate_left
  ·exact Z0
  refine pure_ (i := 7) (N := some 17) (v := undef) (a' := ?_) #[T,T,T,T,T,T,T,T,F,F,F,F,F,F,F,F,F,F,F,F,F,F,F,F,F] rfl rfl ZA ZF (Or.inr ⟨by rfl, rfl⟩) ?_ ?_
  rotate_left
  ·exact Z0
  refine pure_ (i := 8) (N := some 18) (v := undef) (a' := ?_) #[T,T,T,T,T,T,T,T,T,F,F,F,F,F,F,F,F,F,F,F,F,F,F,F,F] rfl rfl ZA ZF (Or.inr ⟨by rfl, rfl⟩) ?_ ?_
  rotate_left
  ·exact Z0
  refine pure_ (i := 9) (N := some 19) (v := undef) (a' := ?_) #[T,T,T,T,T,T,T,T,T,T,F,F,F,F,F,F,F,F,F,F,F,F,F,F,F] rfl rfl ZA ZF (Or.inr ⟨by rfl, rfl⟩) ?_ ?_
  rotate_left
  ·exact Z0
  refine pure_ (i := 10) (N := some 20) (v := undef) (a' := ?_) #[T,T,T,T,T,T,T,T,T,T,T,F,F,F,F,F,F,F,F,F,F,F,F,F,F] rfl rfl ZA ZF (Or.inr ⟨by rfl, rfl⟩) ?_ ?_
  rotate_left
  ·exact Z0
  refine pure_ (i := 11) (N := some 21) (v := undef) (a' := ?_) #[T,T,T,T,T,T,T,T,T,T,T,T,F,F,F,F,F,F,F,F,F,F,F,F,F] rfl rfl ZA ZF (Or.inr ⟨by rfl, rfl⟩) ?_ ?_
  rotate_left
  ·exact Z0
  refine pure_ (i := 12) (N := some 22) (v := ?_) (a' := ?_) #[T,T,T,T,T,T,T,T,T,T,T,T,T,F,F,F,F,F,F,F,F,F,F,F,F] rfl rfl ZA ZF (Or.inl ⟨by rfl, ?_⟩) ?_ ?_
  rotate_left
  ·exact Z13
  rotate_left
  ·exact Z0
  refine pure_ (i := 13) (N := some 23) (v := ?_) (a' := ?_) #[T,T,T,T,T,T,T,T,T,T,T,T,T,T,F,F,F,F,F,F,F,F,F,F,F] rfl rfl ZA ZF (Or.inl ⟨by rfl, ?_⟩) ?_ ?_
  rotate_left
  ·exact Z13
  rotate_left
  ·exact Z0
  refine pure_ (i := 14) (N := some 24) (v := undef) (a' := ?_) #[T,T,T,T,T,T,T,T,T,T,T,T,T,T,T,F,F,F,F,F,F,F,F,F,F] rfl rfl ZA ZF (Or.inr ⟨by rfl, rfl⟩) ?_ ?_
  rotate_left
  ·exact Z0
  refine pure_ (i := 15) (N := some 25) (v := undef) (a' := ?_) #[T,T,T,T,T,T,T,T,T,T,T,T,T,T,T,T,F,F,F,F,F,F,F,F,F] rfl rfl ZA ZF (Or.inr ⟨by rfl, rfl⟩) ?_ ?_
  rotate_left
  ·exact Z0
  refine pure_ (i := 16) (N := some 26) (v := undef) (a' := ?_) #[T,T,T,T,T,T,T,T,T,T,T,T,T,T,T,T,T,F,F,F,F,F,F,F,F] rfl rfl ZA ZF (Or.inr ⟨by rfl, rfl⟩) ?_ ?_
  rotate_left
  ·exact Z0
  refine pure_ (i := 17) (N := some 27) (v := undef) (a' := ?_) #[T,T,T,T,T,T,T,T,T,T,T,T,T,T,T,T,T,T,F,F,F,F,F,F,F] rfl rfl ZA ZF (Or.inr ⟨by rfl, rfl⟩) ?_ ?_
  rotate_left
  ·exact Z0
  refine pure_ (i := 18) (N := some 28) (v := undef) (a' := ?_) #[T,T,T,T,T,T,T,T,T,T,T,T,T,T,T,T,T,T,T,F,F,F,F,F,F] rfl rfl ZA ZF (Or.inr ⟨by rfl, rfl⟩) ?_ ?_
  rotate_left
  ·exact Z0
  refine pure_ (i := 19) (N := some 29) (v := undef) (a' := ?_) #[T,T,T,T,T,T,T,T,T,T,T,T,T,T,T,T,T,T,T,T,F,F,F,F,F] rfl rfl ZA ZF (Or.inr ⟨by rfl, rfl⟩) ?_ ?_
  rotate_left
  ·exact Z0
  refine pure_ (i := 20) (N := some 30) (v := undef) (a' := ?_) #[T,T,T,T,T,T,T,T,T,T,T,T,T,T,T,T,T,T,T,T,T,F,F,F,F] rfl rfl ZA ZF (Or.inr ⟨by rfl, rfl⟩) ?_ ?_
  rotate_left
  ·exact Z0
  refine pure_ (i := 21) (N := some 31) (v := undef) (a' := ?_) #[T,T,T,T,T,T,T,T,T,T,T,T,T,T,T,T,T,T,T,T,T,T,F,F,F] rfl rfl ZA ZF (Or.inr ⟨by rfl, rfl⟩) ?_ ?_
  rotate_left
  ·exact Z0
  refine pure_ (i := 22) (N := some 32) (v := undef) (a' := ?_) #[T,T,T,T,T,T,T,T,T,T,T,T,T,T,T,T,T,T,T,T,T,T,T,F,F] rfl rfl ZA ZF (Or.inr ⟨by rfl, rfl⟩) ?_ ?_
  rotate_left
  ·exact Z0
  refine pure_ (i := 23) (N := some 33) (v := undef) (a' := ?_) #[T,T,T,T,T,T,T,T,T,T,T,T,T,T,T,T,T,T,T,T,T,T,T,T,F] rfl rfl ZA ZF (Or.inr ⟨by rfl, rfl⟩) ?_ ?_
  rotate_left
  ·exact Z0
  refine pure_ (i := 24) (N := some 34) (v := ?_) (a' := ?_) #[T,T,T,T,T,T,T,T,T,T,T,T,T,T,T,T,T,T,T,T,T,T,T,T,T] rfl rfl ZA ZF (Or.inl ⟨by rfl, ?_⟩) ?_ ?_
  rotate_left
  ·exact Z13
  rotate_left
  ·exact Z0
  refine done_ (done_of HT_.out (by kernel_rfl)) ?_
  try go_wp2
  go_ret
  exact ⟨Z7, Z2 GE281.out⟩
 ·rw [if_neg c4] at H
  have c4b0 : decide (t282 < 0) = false := decide_eq_false c4
  clear c4
  by_cases c9 : 0 ≤ t282
  ·rw [if_pos c9] at H
   have c9b0 : decide (0 ≤ t282) = true := decide_eq_true c9
   clear c9
   by_cases c10 : t282 < (l0.length : Int)
   ·rw [if_pos c10] at H
    have c10b0 : decide (t282 < (l0.length : Int)) = true := decide_eq_true c10
    clear c10
    by_cases c11 : a1_1 ≥ (((rd_T95 l0 t282).f1).length : Int)
    ·rw [if_pos c11] at H
     have c11b0 : decide ((((rd_T95 l0 t282).f1).length : Int) ≤ a1_1) = true := decide_eq_true c11
     clear c11
     obtain rfl := Option.some.inj H
     go_enter Try.func55, Try.ntmps55
     try go_wp2_with (first | ((with_reducible refine gate_dst (N := 3) rfl ?_); (try (refine gate_guard (by rfl) ?_; dsimp only)); refine box_event ?hg (N := 3) ?hd (cs := #[.slice A1_0 l1_0.length c1_0, .int .i64 a1_1, .slice A1_2 l1_2.length c1_2, .int .i64 a1_3]) (t := 53) ?hr ?_; (case hd => rfl); (case hg => rfl); (case hr => exact Z16); intro gb281 hg w12 hbox hb; have n0_ := A_ (below_step Z1 hb); have n1_ := A_ (hbox); have n2_ := A_ ((by rw [hg]; exact (below_size Z1) : w.heap.size ≤ gb281)); have n3_ := A_ ((by rw [hg]; exact (below_size Z1) : w.heap.size ≤ gb281)); clear HB; have HB := n0_; have BK281 := n1_; have GW281 := n2_; have GE281 := n3_; clear n0_ n1_ n2_ n3_; clear hb hbox hg; have hcz13_0 : w12.cell? ⟨gb281, 0, none⟩ = some (.slice A1_0 l1_0.length c1_0) := (blk_cell BK281.out 0).trans rfl; have hcz13_1 : w12.cell? ⟨gb281, 1, none⟩ = some (.int .i64 a1_1) := (blk_cell BK281.out 1).trans rfl; have hcz13_2 : w12.cell? ⟨gb281, 2, none⟩ = some (.slice A1_2 l1_2.length c1_2) := (blk_cell BK281.out 2).trans rfl; have hcz13_3 : w12.cell? ⟨gb281, 3, none⟩ = some (.int .i64 a1_3) := (blk_cell BK281.out 3).trans rfl; have hfz13_0 := blk_frozen BK281.out 0; have hfz13_1 := blk_frozen BK281.out 1; have hfz13_2 := blk_frozen BK281.out 2; have hfz13_3 := blk_frozen BK281.out 3) | ((with_reducible refine gate_callee (f := 83) rfl ?_); refine goesL_ (some 9) rfl rfl Try.func83 (by kernel_rfl) rfl #[.slice A0 l0.length c0, .slice A1_0 l1_0.length c1_0] rfl Z5 ?_; (with_reducible refine (impl_storeFind.calls k _ _ l0 _ _ l1_0 t282 _ ?side1 ?side2 ?side3 ?side4 A3.out).mono ?_); (case side1 => exact Z4 HR0.out); (case side2 => exact HC0.out); (case side3 => exact Z4 HR1_0.out); (case side4 => exact HC1_0.out); rintro e w14 ⟨rfl, hb⟩; refine ⟨_, rfl, ?_⟩; have n0_ := A_ (blk_below (g := gb281) (o := .cells #[.slice A1_0 l1_0.length c1_0, .int .i64 a1_1, .slice A1_2 l1_2.length c1_2, .int .i64 a1_3] 53 (0, 0)) (Z3 BK281.out) hb); have n1_ := A_ (below_step (Z2 GE281.out) hb); clear BK281; clear HB; have BK281 := n0_; have HB := n1_; clear n0_ n1_; (try clear hb); (try clear hb2); (try clear hk); (try clear hi)))
     have n0_ := A_ (blk_drew BK281.out)
     have n1_ := A_ (below_drew1 HB.out)
     clear BK281
     clear HB
     have BK281 := n0_
     have HB := n1_
     clear n0_ n1_
     have p283 : 0 ≤ (t282 : Int) := of_decide_eq_true Z14
     have q283 : t282 < (l0.length : Int) := of_decide_eq_true Z14
     obtain ⟨ad283, A283_0, c283_0, A283_1, c283_1, e283, hx283_0, hx283_1, hl283_0, hi283_0, hl283_1, hi283_1⟩ := at_T95 HR0.out t282 p283 q283
     have hw283_1 := hx283_1
     have hw283_0 := hx283_0
     cases e283
     replace hx283_0 := ZC HB.out hx283_0
     replace hx283_1 := ZC HB.out hx283_1
     have HR283_0 := A_ hi283_0
     have HC283_0 := A_ hl283_0
     clear hi283_0 hl283_0
     have HR283_1 := A_ hi283_1
     have HC283_1 := A_ hl283_1
     clear hi283_1 hl283_1
     replace p283 := eq_true p283
     replace q283 := eq_true q283
     refine start_ (n := 25) (S := fun w' => w'.cell? ⟨gb281, 0, none⟩ = some (.slice A1_0 l1_0.length c1_0) ∧ w'.cell? ⟨gb281, 1, none⟩ = some (.int .i64 a1_1) ∧ w'.cell? ⟨gb281, 2, none⟩ = some (.slice A1_2 l1_2.length c1_2) ∧ w'.cell? ⟨gb281, 3, none⟩ = some (.int .i64 a1_3) ∧ w'.cell? (ad283.add ((t282).toNat * 2)) = some (.slice A283_0 ((rd_T95 l0 t282).f0).length c283_0) ∧ w'.cell? ⟨(ad283.add ((t282).toNat * 2)).block, (ad283.add ((t282).toNat * 2)).off + 1, none⟩ = some (.slice A283_1 ((rd_T95 l0 t282).f1).length c283_1)) (ds := []) #[F,F,F,F,F,F,F,F,F,F,F,F,F,F,F,F,F,F,F,F,F,F,F,F,F] (by kernel_rfl) rfl rfl ⟨(blk_cell BK281.out 0).trans rfl, (blk_cell BK281.out 1).trans rfl, (blk_cell BK281.out 2).trans rfl, (blk_cell BK281.out 3).trans rfl, (ZC HB.out hw283_0 :), (ZC HB.out hw283_1 :)⟩ (fun hHeld => ?_); refine with_tabW impl_updateAt.tab2 impl_updateAt.bits2 (fun HT_ HW_ => ?_)
     generalize w14.drew = w15 at BK281 HB HR283_0 HR283_1 hx283_0 hx283_1 hHeld ⊢
     refine pure_ (i := 0) (N := some 10) (v := ?_) (a' := ?_) #[T,F,F,F,F,F,F,F,F,F,F,F,F,F,F,F,F,F,F,F,F,F,F,F,F] rfl rfl ZA ZF (Or.inl ⟨by rfl, ?_⟩) ?_ ?_
     rotate_left
     ·exact Z13
     rotate_left
     ·exact Z0
     refine pure_ (i := 1) (N := some 11) (v := ?_) (a' := ?_) #[T,T,F,F,F,F,F,F,F,F,F,F,F,F,F,F,F,F,F,F,F,F,F,F,F] rfl rfl ZA ZF (Or.inl ⟨by rfl, ?_⟩) ?_ ?_
     rotate_left
     ·exact Z13
     rotate_left
     ·exact Z0
     refine pure_ (i := 2) (N := some 12) (v := ?_) (a' := ?_) #[T,T,T,F,F,F,F,F,F,F,F,F,F,F,F,F,F,F,F,F,F,F,F,F,F] rfl rfl ZA ZF (Or.inl ⟨by rfl, ?_⟩) ?_ ?_
     rotate_left
     ·exact Z13
     rotate_left
     ·exact Z0
     refine pure_ (i := 3) (N := some 13) (v := ?_) (a' := ?_) #[T,T,T,T,F,F,F,F,F,F,F,F,F,F,F,F,F,F,F,F,F,F,F,F,F] rfl rfl ZA ZF (Or.inl ⟨by rfl, ?_⟩) ?_ ?_
     rotate_left
     ·exact Z13
     rotate_left
     ·exact Z0
     refine pure_ (i := 5) (N := some 15) (v := ?_) (a' := ?_) #[T,T,T,T,F,T,F,F,F,F,F,F,F,F,F,F,F,F,F,F,F,F,F,F,F] rfl rfl ZA ZF (Or.inl ⟨by rfl, ?_⟩) ?_ ?_
     rotate_left
     ·exact Z13
     rotate_left
     ·exact Z0
     refine pure_ (i := 6) (N := some 16) (v := ?_) (a' := ?_) #[T,T,T,T,F,T,T,F,F,F,F,F,F,F,F,F,F,F,F,F,F,F,F,F,F] rfl rfl ZA ZF (Or.inl ⟨by rfl, ?_⟩) ?_ ?_
     rotate_left
     ·exact Z13
     rotate_left
     ·exact Z0
     refine pure_ (i := 7) (N := some 17) (v := ?_) (a' := ?_) #[T,T,T,T,F,T,T,T,F,F,F,F,F,F,F,F,F,F,F,F,F,F,F,F,F] rfl rfl ZA ZF (Or.inl ⟨by rfl, ?_⟩) ?_ ?_
     rotate_left
     ·exact Z13
     rotate_left
     ·exact Z0
     refine pure_ (i := 8) (N := some 18) (v := ?_) (a' := ?_) #[T,T,T,T,F,T,T,T,T,F,F,F,F,F,F,F,F,F,F,F,F,F,F,F,F] rfl rfl ZA ZF (Or.inl ⟨by rfl, ?_⟩) ?_ ?_
     rotate_left
     ·exact Z13
     rotate_left
     ·exact Z0
     refine take_ (i := 4) (N := some 14) (v := ?_) (a' := ?_) #[T,T,T,T,T,T,T,T,T,F,F,F,F,F,F,F,F,F,F,F,F,F,F,F,F] rfl rfl (take_ofW HT_.out HW_.out (by kernel_rfl)) ZF (Or.inl ⟨by rfl, ?_⟩) hHeld ?_ ?_
     rotate_left
     ·exact Z39
     rotate_left
     ·exact Z0
     refine take_ (i := 9) (N := some 19) (v := ?_) (a' := ?_) #[T,T,T,T,T,T,T,T,T,T,F,F,F,F,F,F,F,F,F,F,F,F,F,F,F] rfl rfl (take_ofW HT_.out HW_.out (by kernel_rfl)) ZF (Or.inl ⟨by rfl, ?_⟩) hHeld ?_ ?_
     rotate_left
     ·exact Z39
     rotate_left
     ·exact Z0
     refine pure_ (i := 10) (N := some 20) (v := ?_) (a' := ?_) #[T,T,T,T,T,T,T,T,T,T,T,F,F,F,F,F,F,F,F,F,F,F,F,F,F] rfl rfl ZA ZF (Or.inl ⟨by rfl, ?_⟩) ?_ ?_
     rotate_left
     ·exact Z13
     rotate_left
     ·exact Z0
     refine pure_ (i := 11) (N := some 21) (v := ?_) (a' := ?_) #[T,T,T,T,T,T,T,T,T,T,T,T,F,F,F,F,F,F,F,F,F,F,F,F,F] rfl rfl ZA ZF (Or.inl ⟨by rfl, ?_⟩) ?_ ?_
     rotate_left
     ·exact Z13
     rotate_left
     ·exact Z0
     refine pure_ (i := 12) (N := some 22) (v := ?_) (a' := ?_) #[T,T,T,T,T,T,T,T,T,T,T,T,T,F,F,F,F,F,F,F,F,F,F,F,F] rfl rfl ZA ZF (Or.inl ⟨by rfl, ?_⟩) ?_ ?_
     rotate_left
     ·exact Z13
     rotate_left
     ·exact Z0
     refine pure_ (i := 13) (N := some 23) (v := ?_) (a' := ?_) #[T,T,T,T,T,T,T,T,T,T,T,T,T,T,F,F,F,F,F,F,F,F,F,F,F] rfl rfl ZA ZF (Or.inl ⟨by rfl, ?_⟩) ?_ ?_
     rotate_left
     ·exact Z13
     rotate_left
     ·exact Z0
     refine pure_ (i := 14) (N := some 24) (v := undef) (a' := ?_) #[T,T,T,T,T,T,T,T,T,T,T,T,T,T,T,F,F,F,F,F,F,F,F,F,F] rfl rfl ZA ZF (Or.inr ⟨by rfl, rfl⟩) ?_ ?_
     rotate_left
     ·exact Z0
     refine pure_ (i := 15) (N := some 25) (v := undef) (a' := ?_) #[T,T,T,T,T,T,T,T,T,T,T,T,T,T,T,T,F,F,F,F,F,F,F,F,F] rfl rfl ZA ZF (Or.inr ⟨by rfl, rfl⟩) ?_ ?_
     rotate_left
     ·exact Z0
     refine pure_ (i := 16) (N := some 26) (v := undef) (a' := ?_) #[T,T,T,T,T,T,T,T,T,T,T,T,T,T,T,T,T,F,F,F,F,F,F,F,F] rfl rfl ZA ZF (Or.inr ⟨by rfl, rfl⟩) ?_ ?_
     rotate_left
     ·exact Z0
     refine pure_ (i := 17) (N := some 27) (v := undef) (a' := ?_) #[T,T,T,T,T,T,T,T,T,T,T,T,T,T,T,T,T,T,F,F,F,F,F,F,F] rfl rfl ZA ZF (Or.inr ⟨by rfl, rfl⟩) ?_ ?_
     rotate_left
     ·exact Z0
     refine pure_ (i := 18) (N := some 28) (v := undef) (a' := ?_) #[T,T,T,T,T,T,T,T,T,T,T,T,T,T,T,T,T,T,T,F,F,F,F,F,F] rfl rfl ZA ZF (Or.inr ⟨by rfl, rfl⟩) ?_ ?_
     rotate_left
     ·exact Z0
     refine pure_ (i := 19) (N := some 29) (v := undef) (a' := ?_) #[T,T,T,T,T,T,T,T,T,T,T,T,T,T,T,T,T,T,T,T,F,F,F,F,F] rfl rfl ZA ZF (Or.inr ⟨by rfl, rfl⟩) ?_ ?_
     rotate_left
     ·exact Z0
     refine pure_ (i := 20) (N := some 30) (v := undef) (a' := ?_) #[T,T,T,T,T,T,T,T,T,T,T,T,T,T,T,T,T,T,T,T,T,F,F,F,F] rfl rfl ZA ZF (Or.inr ⟨by rfl, rfl⟩) ?_ ?_
     rotate_left
     ·exact Z0
     refine pure_ (i := 21) (N := some 31) (v := undef) (a' := ?_) #[T,T,T,T,T,T,T,T,T,T,T,T,T,T,T,T,T,T,T,T,T,T,F,F,F] rfl rfl ZA ZF (Or.inr ⟨by rfl, rfl⟩) ?_ ?_
     rotate_left
     ·exact Z0
     refine pure_ (i := 22) (N := some 32) (v := undef) (a' := ?_) #[T,T,T,T,T,T,T,T,T,T,T,T,T,T,T,T,T,T,T,T,T,T,T,F,F] rfl rfl ZA ZF (Or.inr ⟨by rfl, rfl⟩) ?_ ?_
     rotate_left
     ·exact Z0
     refine pure_ (i := 23) (N := some 33) (v := undef) (a' := ?_) #[T,T,T,T,T,T,T,T,T,T,T,T,T,T,T,T,T,T,T,T,T,T,T,T,F] rfl rfl ZA ZF (Or.inr ⟨by rfl, rfl⟩) ?_ ?_
     rotate_left
     ·exact Z0
     refine pure_ (i := 24) (N := some 34) (v := ?_) (a' := ?_) #[T,T,T,T,T,T,T,T,T,T,T,T,T,T,T,T,T,T,T,T,T,T,T,T,T] rfl rfl ZA ZF (Or.inl ⟨by rfl, ?_⟩) ?_ ?_
     rotate_left
     ·exact Z13
     rotate_left
     ·exact Z0
     refine done_ (done_of HT_.out (by kernel_rfl)) ?_
     try go_wp2
     go_ret
     exact ⟨Z7, Z2 GE281.out⟩
    ·rw [if_neg c11] at H
     have c11b0 : decide ((((rd_T95 l0 t282).f1).length : Int) ≤ a1_1) = false := decide_eq_false c11
     clear c11
     replace H := Option.bind_eq_some_iff.mp H
     obtain ⟨t285, A160, H⟩ := H
     replace H : (if t285 = true then (some t282) else (some (-1))) = some r := H
     have A16 := A_ A160
     clear A160
     by_cases c17 : t285 = true
     ·subst c17
      have H1 : (some t282) = some r := by rw [if_pos rfl] at H; exact H
      clear H
      have H := H1
      clear H1
      obtain rfl := Option.some.inj H
      go_enter Try.func55, Try.ntmps55
      try go_wp2_with (first | ((with_reducible refine gate_dst (N := 3) rfl ?_); (try (refine gate_guard (by rfl) ?_; dsimp only)); refine box_event ?hg (N := 3) ?hd (cs := #[.slice A1_0 l1_0.length c1_0, .int .i64 a1_1, .slice A1_2 l1_2.length c1_2, .int .i64 a1_3]) (t := 53) ?hr ?_; (case hd => rfl); (case hg => rfl); (case hr => exact Z16); intro gb281 hg w18 hbox hb; have n0_ := A_ (below_step Z1 hb); have n1_ := A_ (hbox); have n2_ := A_ ((by rw [hg]; exact (below_size Z1) : w.heap.size ≤ gb281)); have n3_ := A_ ((by rw [hg]; exact (below_size Z1) : w.heap.size ≤ gb281)); clear HB; have HB := n0_; have BK281 := n1_; have GW281 := n2_; have GE281 := n3_; clear n0_ n1_ n2_ n3_; clear hb hbox hg; have hcz19_0 : w18.cell? ⟨gb281, 0, none⟩ = some (.slice A1_0 l1_0.length c1_0) := (blk_cell BK281.out 0).trans rfl; have hcz19_1 : w18.cell? ⟨gb281, 1, none⟩ = some (.int .i64 a1_1) := (blk_cell BK281.out 1).trans rfl; have hcz19_2 : w18.cell? ⟨gb281, 2, none⟩ = some (.slice A1_2 l1_2.length c1_2) := (blk_cell BK281.out 2).trans rfl; have hcz19_3 : w18.cell? ⟨gb281, 3, none⟩ = some (.int .i64 a1_3) := (blk_cell BK281.out 3).trans rfl; have hfz19_0 := blk_frozen BK281.out 0; have hfz19_1 := blk_frozen BK281.out 1; have hfz19_2 := blk_frozen BK281.out 2; have hfz19_3 := blk_frozen BK281.out 3) | ((with_reducible refine gate_callee (f := 83) rfl ?_); refine goesL_ (some 9) rfl rfl Try.func83 (by kernel_rfl) rfl #[.slice A0 l0.length c0, .slice A1_0 l1_0.length c1_0] rfl Z5 ?_; (with_reducible refine (impl_storeFind.calls k _ _ l0 _ _ l1_0 t282 _ ?side1 ?side2 ?side3 ?side4 A3.out).mono ?_); (case side1 => exact Z4 HR0.out); (case side2 => exact HC0.out); (case side3 => exact Z4 HR1_0.out); (case side4 => exact HC1_0.out); rintro e w20 ⟨rfl, hb⟩; refine ⟨_, rfl, ?_⟩; have n0_ := A_ (blk_below (g := gb281) (o := .cells #[.slice A1_0 l1_0.length c1_0, .int .i64 a1_1, .slice A1_2 l1_2.length c1_2, .int .i64 a1_3] 53 (0, 0)) (Z3 BK281.out) hb); have n1_ := A_ (below_step (Z2 GE281.out) hb); clear BK281; clear HB; have BK281 := n0_; have HB := n1_; clear n0_ n1_; (try clear hb); (try clear hb2); (try clear hk); (try clear hi)))
      have n0_ := A_ (blk_drew BK281.out)
      have n1_ := A_ (below_drew1 HB.out)
      clear BK281
      clear HB
      have BK281 := n0_
      have HB := n1_
      clear n0_ n1_
      have p283 : 0 ≤ (t282 : Int) := of_decide_eq_true Z14
      have q283 : t282 < (l0.length : Int) := of_decide_eq_true Z14
      obtain ⟨ad283, A283_0, c283_0, A283_1, c283_1, e283, hx283_0, hx283_1, hl283_0, hi283_0, hl283_1, hi283_1⟩ := at_T95 HR0.out t282 p283 q283
      have hw283_1 := hx283_1
      have hw283_0 := hx283_0
      cases e283
      replace hx283_0 := ZC HB.out hx283_0
      replace hx283_1 := ZC HB.out hx283_1
      have HR283_0 := A_ hi283_0
      have HC283_0 := A_ hl283_0
      clear hi283_0 hl283_0
      have HR283_1 := A_ hi283_1
      have HC283_1 := A_ hl283_1
      clear hi283_1 hl283_1
      replace p283 := eq_true p283
      replace q283 := eq_true q283
      have p284 : 0 ≤ (t282 : Int) := of_decide_eq_true Z14
      have q284 : t282 < (l0.length : Int) := of_decide_eq_true Z14
      obtain ⟨ad284, A284_0, c284_0, A284_1, c284_1, e284, hx284_0, hx284_1, hl284_0, hi284_0, hl284_1, hi284_1⟩ := at_T95 HR0.out t282 p284 q284
      have hw284_1 := hx284_1
      have hw284_0 := hx284_0
      obtain rfl : ad283 = ad284 := (by injection e284)
      replace hx284_0 := ZC HB.out hx284_0
      replace hx284_1 := ZC HB.out hx284_1
      have HR284_0 := A_ hi284_0
      have HC284_0 := A_ hl284_0
      clear hi284_0 hl284_0
      have HR284_1 := A_ hi284_1
      have HC284_1 := A_ hl284_1
      clear hi284_1 hl284_1
      replace p284 := eq_true p284
      replace q284 := eq_true q284
      have ea_ := Option.some.inj (hx283_0.symm.trans hx284_0)
      injection ea_ with ea_ en_ ec_
      subst ea_
      subst ec_
      clear en_
      have ea_ := Option.some.inj (hx283_1.symm.trans hx284_1)
      injection ea_ with ea_ en_ ec_
      subst ea_
      subst ec_
      clear en_
      refine start_ (n := 25) (S := fun w' => w'.cell? ⟨gb281, 0, none⟩ = some (.slice A1_0 l1_0.length c1_0) ∧ w'.cell? ⟨gb281, 1, none⟩ = some (.int .i64 a1_1) ∧ w'.cell? ⟨gb281, 2, none⟩ = some (.slice A1_2 l1_2.length c1_2) ∧ w'.cell? ⟨gb281, 3, none⟩ = some (.int .i64 a1_3) ∧ w'.cell? (ad283.add ((t282).toNat * 2)) = some (.slice A283_0 ((rd_T95 l0 t282).f0).length c283_0) ∧ w'.cell? ⟨(ad283.add ((t282).toNat * 2)).block, (ad283.add ((t282).toNat * 2)).off + 1, none⟩ = some (.slice A283_1 ((rd_T95 l0 t282).f1).length c283_1) ∧ w'.cell? (ad283.add ((t282).toNat * 2)) = some (.slice A283_0 ((rd_T95 l0 t282).f0).length c283_0) ∧ w'.cell? ⟨(ad283.add ((t282).toNat * 2)).block, (ad283.add ((t282).toNat * 2)).off + 1, none⟩ = some (.slice A283_1 ((rd_T95 l0 t282).f1).length c283_1)) (ds := []) #[F,F,F,F,F,F,F,F,F,F,F,F,F,F,F,F,F,F,F,F,F,F,F,F,F] (by kernel_rfl) rfl rfl ⟨(blk_cell BK281.out 0).trans rfl, (blk_cell BK281.out 1).trans rfl, (blk_cell BK281.out 2).trans rfl, (blk_cell BK281.out 3).trans rfl, (ZC HB.out hw283_0 :), (ZC HB.out hw283_1 :), (ZC HB.out hw284_0 :), (ZC HB.out hw284_1 :)⟩ (fun hHeld => ?_); refine with_tabW impl_updateAt.tab2 impl_updateAt.bits2 (fun HT_ HW_ => ?_)
      generalize w20.drew = w21 at BK281 HB HR283_0 HR283_1 HR284_0 HR284_1 hx283_0 hx283_1 hx284_0 hx284_1 hHeld ⊢
      refine pure_ (i := 0) (N := some 10) (v := ?_) (a' := ?_) #[T,F,F,F,F,F,F,F,F,F,F,F,F,F,F,F,F,F,F,F,F,F,F,F,F] rfl rfl ZA ZF (Or.inl ⟨by rfl, ?_⟩) ?_ ?_
      rotate_left
      ·exact Z13
      rotate_left
      ·exact Z0
      refine pure_ (i := 1) (N := some 11) (v := ?_) (a' := ?_) #[T,T,F,F,F,F,F,F,F,F,F,F,F,F,F,F,F,F,F,F,F,F,F,F,F] rfl rfl ZA ZF (Or.inl ⟨by rfl, ?_⟩) ?_ ?_
      rotate_left
      ·exact Z13
      rotate_left
      ·exact Z0
      refine pure_ (i := 2) (N := some 12) (v := ?_) (a' := ?_) #[T,T,T,F,F,F,F,F,F,F,F,F,F,F,F,F,F,F,F,F,F,F,F,F,F] rfl rfl ZA ZF (Or.inl ⟨by rfl, ?_⟩) ?_ ?_
      rotate_left
      ·exact Z13
      rotate_left
      ·exact Z0
      refine pure_ (i := 3) (N := some 13) (v := ?_) (a' := ?_) #[T,T,T,T,F,F,F,F,F,F,F,F,F,F,F,F,F,F,F,F,F,F,F,F,F] rfl rfl ZA ZF (Or.inl ⟨by rfl, ?_⟩) ?_ ?_
      rotate_left
      ·exact Z13
      rotate_left
      ·exact Z0
      refine pure_ (i := 5) (N := some 15) (v := ?_) (a' := ?_) #[T,T,T,T,F,T,F,F,F,F,F,F,F,F,F,F,F,F,F,F,F,F,F,F,F] rfl rfl ZA ZF (Or.inl ⟨by rfl, ?_⟩) ?_ ?_
      rotate_left
      ·exact Z13
      rotate_left
      ·exact Z0
      refine pure_ (i := 6) (N := some 16) (v := ?_) (a' := ?_) #[T,T,T,T,F,T,T,F,F,F,F,F,F,F,F,F,F,F,F,F,F,F,F,F,F] rfl rfl ZA ZF (Or.inl ⟨by rfl, ?_⟩) ?_ ?_
      rotate_left
      ·exact Z13
      rotate_left
      ·exact Z0
      refine pure_ (i := 7) (N := some 17) (v := ?_) (a' := ?_) #[T,T,T,T,F,T,T,T,F,F,F,F,F,F,F,F,F,F,F,F,F,F,F,F,F] rfl rfl ZA ZF (Or.inl ⟨by rfl, ?_⟩) ?_ ?_
      rotate_left
      ·exact Z13
      rotate_left
      ·exact Z0
      refine pure_ (i := 8) (N := some 18) (v := ?_) (a' := ?_) #[T,T,T,T,F,T,T,T,T,F,F,F,F,F,F,F,F,F,F,F,F,F,F,F,F] rfl rfl ZA ZF (Or.inl ⟨by rfl, ?_⟩) ?_ ?_
      rotate_left
      ·exact Z13
      rotate_left
      ·exact Z0
      refine take_ (i := 4) (N := some 14) (v := ?_) (a' := ?_) #[T,T,T,T,T,T,T,T,T,F,F,F,F,F,F,F,F,F,F,F,F,F,F,F,F] rfl rfl (take_ofW HT_.out HW_.out (by kernel_rfl)) ZF (Or.inl ⟨by rfl, ?_⟩) hHeld ?_ ?_
      rotate_left
      ·exact Z40
      rotate_left
      ·exact Z0
      refine take_ (i := 9) (N := some 19) (v := ?_) (a' := ?_) #[T,T,T,T,T,T,T,T,T,T,F,F,F,F,F,F,F,F,F,F,F,F,F,F,F] rfl rfl (take_ofW HT_.out HW_.out (by kernel_rfl)) ZF (Or.inl ⟨by rfl, ?_⟩) hHeld ?_ ?_
      rotate_left
      ·exact Z40
      rotate_left
      ·exact Z0
      refine pure_ (i := 10) (N := some 20) (v := ?_) (a' := ?_) #[T,T,T,T,T,T,T,T,T,T,T,F,F,F,F,F,F,F,F,F,F,F,F,F,F] rfl rfl ZA ZF (Or.inl ⟨by rfl, ?_⟩) ?_ ?_
      rotate_left
      ·exact Z13
      rotate_left
      ·exact Z0
      refine pure_ (i := 11) (N := some 21) (v := ?_) (a' := ?_) #[T,T,T,T,T,T,T,T,T,T,T,T,F,F,F,F,F,F,F,F,F,F,F,F,F] rfl rfl ZA ZF (Or.inl ⟨by rfl, ?_⟩) ?_ ?_
      rotate_left
      ·exact Z13
      rotate_left
      ·exact Z0
      refine pure_ (i := 12) (N := some 22) (v := ?_) (a' := ?_) #[T,T,T,T,T,T,T,T,T,T,T,T,T,F,F,F,F,F,F,F,F,F,F,F,F] rfl rfl ZA ZF (Or.inl ⟨by rfl, ?_⟩) ?_ ?_
      rotate_left
      ·exact Z13
      rotate_left
      ·exact Z0
      refine pure_ (i := 13) (N := some 23) (v := ?_) (a' := ?_) #[T,T,T,T,T,T,T,T,T,T,T,T,T,T,F,F,F,F,F,F,F,F,F,F,F] rfl rfl ZA ZF (Or.inl ⟨by rfl, ?_⟩) ?_ ?_
      rotate_left
      ·exact Z13
      rotate_left
      ·exact Z0
      refine pure_ (i := 14) (N := some 24) (v := ?_) (a' := ?_) #[T,T,T,T,T,T,T,T,T,T,T,T,T,T,T,F,F,F,F,F,F,F,F,F,F] rfl rfl ZA ZF (Or.inl ⟨by rfl, ?_⟩) ?_ ?_
      rotate_left
      ·exact Z13
      rotate_left
      ·exact Z0
      refine pure_ (i := 16) (N := some 26) (v := ?_) (a' := ?_) #[T,T,T,T,T,T,T,T,T,T,T,T,T,T,T,F,T,F,F,F,F,F,F,F,F] rfl rfl ZA ZF (Or.inl ⟨by rfl, ?_⟩) ?_ ?_
      rotate_left
      ·exact Z13
      rotate_left
      ·exact Z0
      refine pure_ (i := 17) (N := some 27) (v := ?_) (a' := ?_) #[T,T,T,T,T,T,T,T,T,T,T,T,T,T,T,F,T,T,F,F,F,F,F,F,F] rfl rfl ZA ZF (Or.inl ⟨by rfl, ?_⟩) ?_ ?_
      rotate_left
      ·exact Z13
      rotate_left
      ·exact Z0
      refine pure_ (i := 18) (N := some 28) (v := ?_) (a' := ?_) #[T,T,T,T,T,T,T,T,T,T,T,T,T,T,T,F,T,T,T,F,F,F,F,F,F] rfl rfl ZA ZF (Or.inl ⟨by rfl, ?_⟩) ?_ ?_
      rotate_left
      ·exact Z13
      rotate_left
      ·exact Z0
      refine pure_ (i := 19) (N := some 29) (v := ?_) (a' := ?_) #[T,T,T,T,T,T,T,T,T,T,T,T,T,T,T,F,T,T,T,T,F,F,F,F,F] rfl rfl ZA ZF (Or.inl ⟨by rfl, ?_⟩) ?_ ?_
      rotate_left
      ·exact Z13
      rotate_left
      ·exact Z0
      refine take_ (i := 15) (N := some 25) (v := ?_) (a' := ?_) #[T,T,T,T,T,T,T,T,T,T,T,T,T,T,T,T,T,T,T,T,F,F,F,F,F] rfl rfl (take_ofW HT_.out HW_.out (by kernel_rfl)) ZF (Or.inl ⟨by rfl, ?_⟩) hHeld ?_ ?_
      rotate_left
      ·exact Z40
      rotate_left
      ·exact Z0
      refine take_ (i := 20) (N := some 30) (v := ?_) (a' := ?_) #[T,T,T,T,T,T,T,T,T,T,T,T,T,T,T,T,T,T,T,T,T,F,F,F,F] rfl rfl (take_ofW HT_.out HW_.out (by kernel_rfl)) ZF (Or.inl ⟨by rfl, ?_⟩) hHeld ?_ ?_
      rotate_left
      ·exact Z40
      rotate_left
      ·exact Z0
      refine pure_ (i := 21) (N := some 31) (v := ?_) (a' := ?_) #[T,T,T,T,T,T,T,T,T,T,T,T,T,T,T,T,T,T,T,T,T,T,F,F,F] rfl rfl ZA ZF (Or.inl ⟨by rfl, ?_⟩) ?_ ?_
      rotate_left
      ·exact Z13
      rotate_left
      ·exact Z0
      refine one_ (i := 22) (N := some 32) #[T,T,T,T,T,T,T,T,T,T,T,T,T,T,T,T,T,T,T,T,T,T,T,F,F] rfl rfl (one_of HT_.out (by kernel_rfl)) (by decide) (fun K hK => ?_)
      refine goes_ Try.func84 (by kernel_rfl) rfl #[.slice A1_2 l1_2.length c1_2, .int .i64 0, .int .i64 (((rd_T95 l0 t282).f1).length : Int), .int .i64 0] (by rfl) rfl rfl Z5 ?_
      with_reducible refine (impl_formFits.calls k _ _ l1_2 0 (((rd_T95 l0 t282).f1).length : Int) 0 true _ ?side1 ?side2 A16.out).mono ?_
      (case side1 => exact Z4 HR1_2.out)
      (case side2 => exact HC1_2.out)
      rintro e w22 ⟨rfl, hb⟩
      refine ⟨_, rfl, ?_⟩
      have n0_ := A_ (blk_below (g := gb281) (o := .cells #[.slice A1_0 l1_0.length c1_0, .int .i64 a1_1, .slice A1_2 l1_2.length c1_2, .int .i64 a1_3] 53 (0, 0)) (Z3 BK281.out) hb)
      have n1_ := A_ (below_step (Z2 GE281.out) hb)
      clear BK281
      clear HB
      have BK281 := n0_
      have HB := n1_
      clear n0_ n1_
      (try clear hb)
      (try clear hb2)
      (try clear hk)
      (try clear hi)
      refine hK.out _ _ ⟨(blk_cell BK281.out 0).trans rfl, (blk_cell BK281.out 1).trans rfl, (blk_cell BK281.out 2).trans rfl, (blk_cell BK281.out 3).trans rfl, (ZC HB.out hw283_0 :), (ZC HB.out hw283_1 :), (ZC HB.out hw284_0 :), (ZC HB.out hw284_1 :)⟩ (fun hHeld => ?_)
      clear hK K
      refine norm_ (a' := ?_) ?_ ?_
      rotate_left
      ·show Act.put _ (some 32) _ = _
       simp only [Act.put, List.setIfInBounds_toArray, List.set_cons_zero, List.set_cons_succ, i64_w, i32_w]
       rfl
      refine pure_ (i := 23) (N := some 33) (v := ?_) (a' := ?_) #[T,T,T,T,T,T,T,T,T,T,T,T,T,T,T,T,T,T,T,T,T,T,T,T,F] rfl rfl ZA ZF (Or.inl ⟨by rfl, ?_⟩) ?_ ?_
      rotate_left
      ·exact Z13
      rotate_left
      ·exact Z0
      refine pure_ (i := 24) (N := some 34) (v := ?_) (a' := ?_) #[T,T,T,T,T,T,T,T,T,T,T,T,T,T,T,T,T,T,T,T,T,T,T,T,T] rfl rfl ZA ZF (Or.inl ⟨by rfl, ?_⟩) ?_ ?_
      rotate_left
      ·exact Z13
      rotate_left
      ·exact Z0
      refine done_ (done_of HT_.out (by kernel_rfl)) ?_
      try go_wp2
      go_ret
      exact ⟨Z7, Z2 GE281.out⟩
     ·replace c17 := Bool.eq_false_iff.mpr c17
      subst c17
      have H1 : (some (-1)) = some r := by rw [if_neg (show ¬ (false = true) by decide)] at H; exact H
      clear H
      have H := H1
      clear H1
      obtain rfl := Option.some.inj H
      go_enter Try.func55, Try.ntmps55
      try go_wp2_with (first | ((with_reducible refine gate_dst (N := 3) rfl ?_); (try (refine gate_guard (by rfl) ?_; dsimp only)); refine box_event ?hg (N := 3) ?hd (cs := #[.slice A1_0 l1_0.length c1_0, .int .i64 a1_1, .slice A1_2 l1_2.length c1_2, .int .i64 a1_3]) (t := 53) ?hr ?_; (case hd => rfl); (case hg => rfl); (case hr => exact Z16); intro gb281 hg w23 hbox hb; have n0_ := A_ (below_step Z1 hb); have n1_ := A_ (hbox); have n2_ := A_ ((by rw [hg]; exact (below_size Z1) : w.heap.size ≤ gb281)); have n3_ := A_ ((by rw [hg]; exact (below_size Z1) : w.heap.size ≤ gb281)); clear HB; have HB := n0_; have BK281 := n1_; have GW281 := n2_; have GE281 := n3_; clear n0_ n1_ n2_ n3_; clear hb hbox hg; have hcz24_0 : w23.cell? ⟨gb281, 0, none⟩ = some (.slice A1_0 l1_0.length c1_0) := (blk_cell BK281.out 0).trans rfl; have hcz24_1 : w23.cell? ⟨gb281, 1, none⟩ = some (.int .i64 a1_1) := (blk_cell BK281.out 1).trans rfl; have hcz24_2 : w23.cell? ⟨gb281, 2, none⟩ = some (.slice A1_2 l1_2.length c1_2) := (blk_cell BK281.out 2).trans rfl; have hcz24_3 : w23.cell? ⟨gb281, 3, none⟩ = some (.int .i64 a1_3) := (blk_cell BK281.out 3).trans rfl; have hfz24_0 := blk_frozen BK281.out 0; have hfz24_1 := blk_frozen BK281.out 1; have hfz24_2 := blk_frozen BK281.out 2; have hfz24_3 := blk_frozen BK281.out 3) | ((with_reducible refine gate_callee (f := 83) rfl ?_); refine goesL_ (some 9) rfl rfl Try.func83 (by kernel_rfl) rfl #[.slice A0 l0.length c0, .slice A1_0 l1_0.length c1_0] rfl Z5 ?_; (with_reducible refine (impl_storeFind.calls k _ _ l0 _ _ l1_0 t282 _ ?side1 ?side2 ?side3 ?side4 A3.out).mono ?_); (case side1 => exact Z4 HR0.out); (case side2 => exact HC0.out); (case side3 => exact Z4 HR1_0.out); (case side4 => exact HC1_0.out); rintro e w25 ⟨rfl, hb⟩; refine ⟨_, rfl, ?_⟩; have n0_ := A_ (blk_below (g := gb281) (o := .cells #[.slice A1_0 l1_0.length c1_0, .int .i64 a1_1, .slice A1_2 l1_2.length c1_2, .int .i64 a1_3] 53 (0, 0)) (Z3 BK281.out) hb); have n1_ := A_ (below_step (Z2 GE281.out) hb); clear BK281; clear HB; have BK281 := n0_; have HB := n1_; clear n0_ n1_; (try clear hb); (try clear hb2); (try clear hk); (try clear hi)))
      have n0_ := A_ (blk_drew BK281.out)
      have n1_ := A_ (below_drew1 HB.out)
      clear BK281
      clear HB
      have BK281 := n0_
      have HB := n1_
      clear n0_ n1_
      have p283 : 0 ≤ (t282 : Int) := of_decide_eq_true Z14
      have q283 : t282 < (l0.length : Int) := of_decide_eq_true Z14
      obtain ⟨ad283, A283_0, c283_0, A283_1, c283_1, e283, hx283_0, hx283_1, hl283_0, hi283_0, hl283_1, hi283_1⟩ := at_T95 HR0.out t282 p283 q283
      have hw283_1 := hx283_1
      have hw283_0 := hx283_0
      cases e283
      replace hx283_0 := ZC HB.out hx283_0
      replace hx283_1 := ZC HB.out hx283_1
      have HR283_0 := A_ hi283_0
      have HC283_0 := A_ hl283_0
      clear hi283_0 hl283_0
      have HR283_1 := A_ hi283_1
      have HC283_1 := A_ hl283_1
      clear hi283_1 hl283_1
      replace p283 := eq_true p283
      replace q283 := eq_true q283
      have p284 : 0 ≤ (t282 : Int) := of_decide_eq_true Z14
      have q284 : t282 < (l0.length : Int) := of_decide_eq_true Z14
      obtain ⟨ad284, A284_0, c284_0, A284_1, c284_1, e284, hx284_0, hx284_1, hl284_0, hi284_0, hl284_1, hi284_1⟩ := at_T95 HR0.out t282 p284 q284
      have hw284_1 := hx284_1
      have hw284_0 := hx284_0
      obtain rfl : ad283 = ad284 := (by injection e284)
      replace hx284_0 := ZC HB.out hx284_0
      replace hx284_1 := ZC HB.out hx284_1
      have HR284_0 := A_ hi284_0
      have HC284_0 := A_ hl284_0
      clear hi284_0 hl284_0
      have HR284_1 := A_ hi284_1
      have HC284_1 := A_ hl284_1
      clear hi284_1 hl284_1
      replace p284 := eq_true p284
      replace q284 := eq_true q284
      have ea_ := Option.some.inj (hx283_0.symm.trans hx284_0)
      injection ea_ with ea_ en_ ec_
      subst ea_
      subst ec_
      clear en_
      have ea_ := Option.some.inj (hx283_1.symm.trans hx284_1)
      injection ea_ with ea_ en_ ec_
      subst ea_
      subst ec_
      clear en_
      refine start_ (n := 25) (S := fun w' => w'.cell? ⟨gb281, 0, none⟩ = some (.slice A1_0 l1_0.length c1_0) ∧ w'.cell? ⟨gb281, 1, none⟩ = some (.int .i64 a1_1) ∧ w'.cell? ⟨gb281, 2, none⟩ = some (.slice A1_2 l1_2.length c1_2) ∧ w'.cell? ⟨gb281, 3, none⟩ = some (.int .i64 a1_3) ∧ w'.cell? (ad283.add ((t282).toNat * 2)) = some (.slice A283_0 ((rd_T95 l0 t282).f0).length c283_0) ∧ w'.cell? ⟨(ad283.add ((t282).toNat * 2)).block, (ad283.add ((t282).toNat * 2)).off + 1, none⟩ = some (.slice A283_1 ((rd_T95 l0 t282).f1).length c283_1) ∧ w'.cell? (ad283.add ((t282).toNat * 2)) = some (.slice A283_0 ((rd_T95 l0 t282).f0).length c283_0) ∧ w'.cell? ⟨(ad283.add ((t282).toNat * 2)).block, (ad283.add ((t282).toNat * 2)).off + 1, none⟩ = some (.slice A283_1 ((rd_T95 l0 t282).f1).length c283_1)) (ds := []) #[F,F,F,F,F,F,F,F,F,F,F,F,F,F,F,F,F,F,F,F,F,F,F,F,F] (by kernel_rfl) rfl rfl ⟨(blk_cell BK281.out 0).trans rfl, (blk_cell BK281.out 1).trans rfl, (blk_cell BK281.out 2).trans rfl, (blk_cell BK281.out 3).trans rfl, (ZC HB.out hw283_0 :), (ZC HB.out hw283_1 :), (ZC HB.out hw284_0 :), (ZC HB.out hw284_1 :)⟩ (fun hHeld => ?_); refine with_tabW impl_updateAt.tab2 impl_updateAt.bits2 (fun HT_ HW_ => ?_)
      generalize w25.drew = w26 at BK281 HB HR283_0 HR283_1 HR284_0 HR284_1 hx283_0 hx283_1 hx284_0 hx284_1 hHeld ⊢
      refine pure_ (i := 0) (N := some 10) (v := ?_) (a' := ?_) #[T,F,F,F,F,F,F,F,F,F,F,F,F,F,F,F,F,F,F,F,F,F,F,F,F] rfl rfl ZA ZF (Or.inl ⟨by rfl, ?_⟩) ?_ ?_
      rotate_left
      ·exact Z13
      rotate_left
      ·exact Z0
      refine pure_ (i := 1) (N := some 11) (v := ?_) (a' := ?_) #[T,T,F,F,F,F,F,F,F,F,F,F,F,F,F,F,F,F,F,F,F,F,F,F,F] rfl rfl ZA ZF (Or.inl ⟨by rfl, ?_⟩) ?_ ?_
      rotate_left
      ·exact Z13
      rotate_left
      ·exact Z0
      refine pure_ (i := 2) (N := some 12) (v := ?_) (a' := ?_) #[T,T,T,F,F,F,F,F,F,F,F,F,F,F,F,F,F,F,F,F,F,F,F,F,F] rfl rfl ZA ZF (Or.inl ⟨by rfl, ?_⟩) ?_ ?_
      rotate_left
      ·exact Z13
      rotate_left
      ·exact Z0
      refine pure_ (i := 3) (N := some 13) (v := ?_) (a' := ?_) #[T,T,T,T,F,F,F,F,F,F,F,F,F,F,F,F,F,F,F,F,F,F,F,F,F] rfl rfl ZA ZF (Or.inl ⟨by rfl, ?_⟩) ?_ ?_
      rotate_left
      ·exact Z13
      rotate_left
      ·exact Z0
      refine pure_ (i := 5) (N := some 15) (v := ?_) (a' := ?_) #[T,T,T,T,F,T,F,F,F,F,F,F,F,F,F,F,F,F,F,F,F,F,F,F,F] rfl rfl ZA ZF (Or.inl ⟨by rfl, ?_⟩) ?_ ?_
      rotate_left
      ·exact Z13
      rotate_left
      ·exact Z0
      refine pure_ (i := 6) (N := some 16) (v := ?_) (a' := ?_) #[T,T,T,T,F,T,T,F,F,F,F,F,F,F,F,F,F,F,F,F,F,F,F,F,F] rfl rfl ZA ZF (Or.inl ⟨by rfl, ?_⟩) ?_ ?_
      rotate_left
      ·exact Z13
      rotate_left
      ·exact Z0
      refine pure_ (i := 7) (N := some 17) (v := ?_) (a' := ?_) #[T,T,T,T,F,T,T,T,F,F,F,F,F,F,F,F,F,F,F,F,F,F,F,F,F] rfl rfl ZA ZF (Or.inl ⟨by rfl, ?_⟩) ?_ ?_
      rotate_left
      ·exact Z13
      rotate_left
      ·exact Z0
      refine pure_ (i := 8) (N := some 18) (v := ?_) (a' := ?_) #[T,T,T,T,F,T,T,T,T,F,F,F,F,F,F,F,F,F,F,F,F,F,F,F,F] rfl rfl ZA ZF (Or.inl ⟨by rfl, ?_⟩) ?_ ?_
      rotate_left
      ·exact Z13
      rotate_left
      ·exact Z0
      refine take_ (i := 4) (N := some 14) (v := ?_) (a' := ?_) #[T,T,T,T,T,T,T,T,T,F,F,F,F,F,F,F,F,F,F,F,F,F,F,F,F] rfl rfl (take_ofW HT_.out HW_.out (by kernel_rfl)) ZF (Or.inl ⟨by rfl, ?_⟩) hHeld ?_ ?_
      rotate_left
      ·exact Z40
      rotate_left
      ·exact Z0
      refine take_ (i := 9) (N := some 19) (v := ?_) (a' := ?_) #[T,T,T,T,T,T,T,T,T,T,F,F,F,F,F,F,F,F,F,F,F,F,F,F,F] rfl rfl (take_ofW HT_.out HW_.out (by kernel_rfl)) ZF (Or.inl ⟨by rfl, ?_⟩) hHeld ?_ ?_
      rotate_left
      ·exact Z40
      rotate_left
      ·exact Z0
      refine pure_ (i := 10) (N := some 20) (v := ?_) (a' := ?_) #[T,T,T,T,T,T,T,T,T,T,T,F,F,F,F,F,F,F,F,F,F,F,F,F,F] rfl rfl ZA ZF (Or.inl ⟨by rfl, ?_⟩) ?_ ?_
      rotate_left
      ·exact Z13
      rotate_left
      ·exact Z0
      refine pure_ (i := 11) (N := some 21) (v := ?_) (a' := ?_) #[T,T,T,T,T,T,T,T,T,T,T,T,F,F,F,F,F,F,F,F,F,F,F,F,F] rfl rfl ZA ZF (Or.inl ⟨by rfl, ?_⟩) ?_ ?_
      rotate_left
      ·exact Z13
      rotate_left
      ·exact Z0
      refine pure_ (i := 12) (N := some 22) (v := ?_) (a' := ?_) #[T,T,T,T,T,T,T,T,T,T,T,T,T,F,F,F,F,F,F,F,F,F,F,F,F] rfl rfl ZA ZF (Or.inl ⟨by rfl, ?_⟩) ?_ ?_
      rotate_left
      ·exact Z13
      rotate_left
      ·exact Z0
      refine pure_ (i := 13) (N := some 23) (v := ?_) (a' := ?_) #[T,T,T,T,T,T,T,T,T,T,T,T,T,T,F,F,F,F,F,F,F,F,F,F,F] rfl rfl ZA ZF (Or.inl ⟨by rfl, ?_⟩) ?_ ?_
      rotate_left
      ·exact Z13
      rotate_left
      ·exact Z0
      refine pure_ (i := 14) (N := some 24) (v := ?_) (a' := ?_) #[T,T,T,T,T,T,T,T,T,T,T,T,T,T,T,F,F,F,F,F,F,F,F,F,F] rfl rfl ZA ZF (Or.inl ⟨by rfl, ?_⟩) ?_ ?_
      rotate_left
      ·exact Z13
      rotate_left
      ·exact Z0
      refine pure_ (i := 16) (N := some 26) (v := ?_) (a' := ?_) #[T,T,T,T,T,T,T,T,T,T,T,T,T,T,T,F,T,F,F,F,F,F,F,F,F] rfl rfl ZA ZF (Or.inl ⟨by rfl, ?_⟩) ?_ ?_
      rotate_left
      ·exact Z13
      rotate_left
      ·exact Z0
      refine pure_ (i := 17) (N := some 27) (v := ?_) (a' := ?_) #[T,T,T,T,T,T,T,T,T,T,T,T,T,T,T,F,T,T,F,F,F,F,F,F,F] rfl rfl ZA ZF (Or.inl ⟨by rfl, ?_⟩) ?_ ?_
      rotate_left
      ·exact Z13
      rotate_left
      ·exact Z0
      refine pure_ (i := 18) (N := some 28) (v := ?_) (a' := ?_) #[T,T,T,T,T,T,T,T,T,T,T,T,T,T,T,F,T,T,T,F,F,F,F,F,F] rfl rfl ZA ZF (Or.inl ⟨by rfl, ?_⟩) ?_ ?_
      rotate_left
      ·exact Z13
      rotate_left
      ·exact Z0
      refine pure_ (i := 19) (N := some 29) (v := ?_) (a' := ?_) #[T,T,T,T,T,T,T,T,T,T,T,T,T,T,T,F,T,T,T,T,F,F,F,F,F] rfl rfl ZA ZF (Or.inl ⟨by rfl, ?_⟩) ?_ ?_
      rotate_left
      ·exact Z13
      rotate_left
      ·exact Z0
      refine take_ (i := 15) (N := some 25) (v := ?_) (a' := ?_) #[T,T,T,T,T,T,T,T,T,T,T,T,T,T,T,T,T,T,T,T,F,F,F,F,F] rfl rfl (take_ofW HT_.out HW_.out (by kernel_rfl)) ZF (Or.inl ⟨by rfl, ?_⟩) hHeld ?_ ?_
      rotate_left
      ·exact Z40
      rotate_left
      ·exact Z0
      refine take_ (i := 20) (N := some 30) (v := ?_) (a' := ?_) #[T,T,T,T,T,T,T,T,T,T,T,T,T,T,T,T,T,T,T,T,T,F,F,F,F] rfl rfl (take_ofW HT_.out HW_.out (by kernel_rfl)) ZF (Or.inl ⟨by rfl, ?_⟩) hHeld ?_ ?_
      rotate_left
      ·exact Z40
      rotate_left
      ·exact Z0
      refine pure_ (i := 21) (N := some 31) (v := ?_) (a' := ?_) #[T,T,T,T,T,T,T,T,T,T,T,T,T,T,T,T,T,T,T,T,T,T,F,F,F] rfl rfl ZA ZF (Or.inl ⟨by rfl, ?_⟩) ?_ ?_
      rotate_left
      ·exact Z13
      rotate_left
      ·exact Z0
      refine one_ (i := 22) (N := some 32) #[T,T,T,T,T,T,T,T,T,T,T,T,T,T,T,T,T,T,T,T,T,T,T,F,F] rfl rfl (one_of HT_.out (by kernel_rfl)) (by decide) (fun K hK => ?_)
      refine goes_ Try.func84 (by kernel_rfl) rfl #[.slice A1_2 l1_2.length c1_2, .int .i64 0, .int .i64 (((rd_T95 l0 t282).f1).length : Int), .int .i64 0] (by rfl) rfl rfl Z5 ?_
      with_reducible refine (impl_formFits.calls k _ _ l1_2 0 (((rd_T95 l0 t282).f1).length : Int) 0 false _ ?side1 ?side2 A16.out).mono ?_
      (case side1 => exact Z4 HR1_2.out)
      (case side2 => exact HC1_2.out)
      rintro e w27 ⟨rfl, hb⟩
      refine ⟨_, rfl, ?_⟩
      have n0_ := A_ (blk_below (g := gb281) (o := .cells #[.slice A1_0 l1_0.length c1_0, .int .i64 a1_1, .slice A1_2 l1_2.length c1_2, .int .i64 a1_3] 53 (0, 0)) (Z3 BK281.out) hb)
      have n1_ := A_ (below_step (Z2 GE281.out) hb)
      clear BK281
      clear HB
      have BK281 := n0_
      have HB := n1_
      clear n0_ n1_
      (try clear hb)
      (try clear hb2)
      (try clear hk)
      (try clear hi)
      refine hK.out _ _ ⟨(blk_cell BK281.out 0).trans rfl, (blk_cell BK281.out 1).trans rfl, (blk_cell BK281.out 2).trans rfl, (blk_cell BK281.out 3).trans rfl, (ZC HB.out hw283_0 :), (ZC HB.out hw283_1 :), (ZC HB.out hw284_0 :), (ZC HB.out hw284_1 :)⟩ (fun hHeld => ?_)
      clear hK K
      refine norm_ (a' := ?_) ?_ ?_
      rotate_left
      ·show Act.put _ (some 32) _ = _
       simp only [Act.put, List.setIfInBounds_toArray, List.set_cons_zero, List.set_cons_succ, i64_w, i32_w]
       rfl
      refine pure_ (i := 23) (N := some 33) (v := ?_) (a' := ?_) #[T,T,T,T,T,T,T,T,T,T,T,T,T,T,T,T,T,T,T,T,T,T,T,T,F] rfl rfl ZA ZF (Or.inl ⟨by rfl, ?_⟩) ?_ ?_
      rotate_left
      ·exact Z13
      rotate_left
      ·exact Z0
      refine pure_ (i := 24) (N := some 34) (v := ?_) (a' := ?_) #[T,T,T,T,T,T,T,T,T,T,T,T,T,T,T,T,T,T,T,T,T,T,T,T,T] rfl rfl ZA ZF (Or.inl ⟨by rfl, ?_⟩) ?_ ?_
      rotate_left
      ·exact Z13
      rotate_left
      ·exact Z0
      refine done_ (done_of HT_.out (by kernel_rfl)) ?_
      try go_wp2
      go_ret
      exact ⟨Z7, Z2 GE281.out⟩
   ·rw [if_neg c10] at H
    exact absurd H (by simp)
  ·rw [if_neg c9] at H
   exact absurd H (by simp)
end Go.Proofs.Ytmphggpibaolcaa.PFnExactUpdateHas
