/- Walks of the functions that the law 'FnExactTurnsCut' reaches, part 10: for each a Lean function and the proof that Go's comes to just its answer (lines of the print, under own names; no condition). -/
import Derived.Test.YtpadhphdglbciaaZFnExactTurnsCutQFnExactTurnsCutx0
import Derived.Test.YtpadhphdglbciaaZFnExactTurnsCutQFnExactTurnsCutx6
import Derived.Test.YtpadhphdglbciaaZFnExactTurnsCutQFnExactTurnsCutx9
namespace Go.Proofs.Ytpadhphdglbciaa.PFnExactTurnsCut
open Go.RowKit Go.Proofs.YtpadhphdglbciaaW.PrintWords Go.Proofs.YtpadhphdglbciaaW.PrintLast Go.Proofs.YtpadhphdglbciaaW.PrintMore
attribute [local go_sem] max2_int min2_int max_two min_two max_three min_three max_four min_four
set_option linter.unusedVariables false
set_option linter.unusedSimpArgs false
mutual
def impl_TurnsCut.j0 : Nat → List (S122) → Int → Bool → Option ((List (S122)) × Bool)
 | 0, _, _, _ => none
 | k + 1, x0, x1, x16 => if x16 = true then (some (([] : List (S122)), false)) else (impl_TurnsCut.l0 k x1 ([] : List (S122)) x0 (x0.length : Int) 0)
def impl_TurnsCut.l0 : Nat → Int → List (S122) → List (S122) → Int → Int → Option ((List (S122)) × Bool)
 | 0, _, _, _, _, _ => none
 | k + 1, x1, x6, x17, x18, x19 => if x19 < x18 then (if 0 ≤ x19 then (if x19 < (x17.length : Int) then (impl_TurnsCut.l1 k x1 x6 x17 x18 x19 ((rd_T122 x17 x19).f0) ((rd_T122 x17 x19).f1) ((rd_T122 x17 x19).f2.f0) ((rd_T122 x17 x19).f2.f1) ((rd_T122 x17 x19).f2.f2) ((rd_T122 x17 x19).f2.f3)) else (none)) else (none)) else (if (x6.length : Int) > 60 then (some (([] : List (S122)), false)) else (some (x6, true)))
def impl_TurnsCut.l1 : Nat → Int → List (S122) → List (S122) → Int → Int → Int → Int → List (S92) → Int → List (S137) → Int → Option ((List (S122)) × Bool)
 | 0, _, _, _, _, _, _, _, _, _, _, _ => none
 | k + 1, x1, x6, x17, x18, x19, x312000, x312001, x312002, x312003, x312004, x312005 => if x312000 = 1 then (if x312001 > x1 then (if x6.length < 1759218604441 then (impl_TurnsCut.l1 k x1 (x6 ++ [(⟨1, x1, (⟨([] : List (S92)), 0, ([] : List (S137)), 0⟩ : S120)⟩ : S122)]) x17 x18 x19 x312000 (wrap64 (x312001 - x1)) x312002 x312003 x312004 x312005) else (none)) else ((impl_turnCopy.f x312000 x312001 x312002 x312003 x312004 x312005).bind fun bt315 => (if x6.length < 1759218604441 then (impl_TurnsCut.l0 k x1 (x6 ++ [(⟨bt315.1, bt315.2.1, (⟨bt315.2.2.1, bt315.2.2.2.1, bt315.2.2.2.2.1, bt315.2.2.2.2.2⟩ : S120)⟩ : S122)]) x17 x18 (wrap64 (x19 + 1))) else (none)))) else ((impl_turnCopy.f x312000 x312001 x312002 x312003 x312004 x312005).bind fun bt328 => (if x6.length < 1759218604441 then (impl_TurnsCut.l0 k x1 (x6 ++ [(⟨bt328.1, bt328.2.1, (⟨bt328.2.2.1, bt328.2.2.2.1, bt328.2.2.2.2.1, bt328.2.2.2.2.2⟩ : S120)⟩ : S122)]) x17 x18 (wrap64 (x19 + 1))) else (none)))
end
def impl_TurnsCut.f (k : Nat) (l0 : List (S122)) (a1 : Int) : Option ((List (S122)) × Bool) := (impl_TurnsOk.f k l0).bind fun t308 => (if t308 = true then ((impl_within.f a1 1 300).bind fun t309 => (impl_TurnsCut.j0 k l0 a1 (!t309))) else (impl_TurnsCut.j0 k l0 a1 true))
theorem impl_TurnsCut.mono_l : ∀ k, (∀ y0 y1 y2, LeO (impl_TurnsCut.j0 k y0 y1 y2) (impl_TurnsCut.j0 (k + 1) y0 y1 y2)) ∧ (∀ y0 y1 y2 y3 y4, LeO (impl_TurnsCut.l0 k y0 y1 y2 y3 y4) (impl_TurnsCut.l0 (k + 1) y0 y1 y2 y3 y4)) ∧ (∀ y0 y1 y2 y3 y4 y5 y6 y7 y8 y9 y10, LeO (impl_TurnsCut.l1 k y0 y1 y2 y3 y4 y5 y6 y7 y8 y9 y10) (impl_TurnsCut.l1 (k + 1) y0 y1 y2 y3 y4 y5 y6 y7 y8 y9 y10))
 | 0 => ⟨fun _ _ _ r h => by simp [impl_TurnsCut.j0] at h, fun _ _ _ _ _ r h => by simp [impl_TurnsCut.l0] at h, fun _ _ _ _ _ _ _ _ _ _ _ r h => by simp [impl_TurnsCut.l1] at h⟩
 | k + 1 => by
  obtain ⟨ih0, ih1, ih2⟩ := impl_TurnsCut.mono_l k
  refine ⟨?_, ?_, ?_⟩
  ·intro y0 y1 y2
   unfold impl_TurnsCut.j0
   repeat' first
   | (with_reducible exact ih0 _ _ _)
   | (with_reducible exact ih1 _ _ _ _ _)
   | (with_reducible exact ih2 _ _ _ _ _ _ _ _ _ _ _)
   | (with_reducible exact impl_TurnsOk.mono _ _)
   | (with_reducible exact LeO.refl _)
   | (with_reducible exact LeO.none _)
   | (with_reducible refine LeO.ite ?_ ?_)
   | (with_reducible refine LeO.bind ?_ (fun _ => ?_))
   | exact ih0 _ _ _
   | exact ih1 _ _ _ _ _
   | exact ih2 _ _ _ _ _ _ _ _ _ _ _
   | exact impl_TurnsOk.mono _ _
   | exact LeO.none _
   | refine LeO.ite ?_ ?_
   | refine LeO.bind ?_ (fun _ => ?_)
  ·intro y0 y1 y2 y3 y4
   unfold impl_TurnsCut.l0
   repeat' first
   | (with_reducible exact ih0 _ _ _)
   | (with_reducible exact ih1 _ _ _ _ _)
   | (with_reducible exact ih2 _ _ _ _ _ _ _ _ _ _ _)
   | (with_reducible exact impl_TurnsOk.mono _ _)
   | (with_reducible exact LeO.refl _)
   | (with_reducible exact LeO.none _)
   | (with_reducible refine LeO.ite ?_ ?_)
   | (with_reducible refine LeO.bind ?_ (fun _ => ?_))
   | exact ih0 _ _ _
   | exact ih1 _ _ _ _ _
   | exact ih2 _ _ _ _ _ _ _ _ _ _ _
   | exact impl_TurnsOk.mono _ _
   | exact LeO.none _
   | refine LeO.ite ?_ ?_
   | refine LeO.bind ?_ (fun _ => ?_)
  ·intro y0 y1 y2 y3 y4 y5 y6 y7 y8 y9 y10
   unfold impl_TurnsCut.l1
   repeat' first
   | (with_reducible exact ih0 _ _ _)
   | (with_reducible exact ih1 _ _ _ _ _)
   | (with_reducible exact ih2 _ _ _ _ _ _ _ _ _ _ _)
   | (with_reducible exact impl_TurnsOk.mono _ _)
   | (with_reducible exact LeO.refl _)
   | (with_reducible exact LeO.none _)
   | (with_reducible refine LeO.ite ?_ ?_)
   | (with_reducible refine LeO.bind ?_ (fun _ => ?_))
   | exact ih0 _ _ _
   | exact ih1 _ _ _ _ _
   | exact ih2 _ _ _ _ _ _ _ _ _ _ _
   | exact impl_TurnsOk.mono _ _
   | exact LeO.none _
   | refine LeO.ite ?_ ?_
   | refine LeO.bind ?_ (fun _ => ?_)
theorem impl_TurnsCut.mono : ∀ a0 a1 k, LeO (impl_TurnsCut.f k a0 a1) (impl_TurnsCut.f (k + 1) a0 a1) := by
 intro a0 a1 k
 obtain ⟨ih0, ih1, ih2⟩ := impl_TurnsCut.mono_l k
 unfold impl_TurnsCut.f
 repeat' first
   | (with_reducible exact ih0 _ _ _)
   | (with_reducible exact ih1 _ _ _ _ _)
   | (with_reducible exact ih2 _ _ _ _ _ _ _ _ _ _ _)
   | (with_reducible exact impl_TurnsOk.mono _ _)
   | (with_reducible exact LeO.refl _)
   | (with_reducible exact LeO.none _)
   | (with_reducible refine LeO.ite ?_ ?_)
   | (with_reducible refine LeO.bind ?_ (fun _ => ?_))
   | exact ih0 _ _ _
   | exact ih1 _ _ _ _ _
   | exact ih2 _ _ _ _ _ _ _ _ _ _ _
   | exact impl_TurnsOk.mono _ _
   | exact LeO.none _
   | refine LeO.ite ?_ ?_
   | refine LeO.bind ?_ (fun _ => ?_)
set_option maxHeartbeats 8000000 in
set_option maxRecDepth 100000 in
theorem impl_TurnsCut.calls (k : Nat) (A0 : Option Addr) (c0 : Nat) (l0 : List (S122)) (a1 : Int) (r1 : List (S122)) (r2 : Bool) (w : World) (hr0 : Kd.C k122 w A0 l0.length l0) (hc0 : l0.length ≤ c0) (h : impl_TurnsCut.f k l0 a1 = some (r1, r2)) :
  Calls Try.prog 41 #[.slice A0 l0.length c0, .int .i64 a1] w fun e w' => ∃ v0_ : Value, e = .returned (.tuple #[v0_, .bool r2]) ∧ Kd.S k122 122 w' w.heap.size (fun _ => True) v0_ r1 ∧ Below w.heap.size w w' := by
 have hu122 := Try.underlying122
 have HR0 := A_ hr0
 have HC0 := A_ hc0
 clear hr0 hc0
 have HB := A_ (Below.refl w.heap.size w)
 have H : ((impl_TurnsOk.f k l0).bind fun t308 => (if t308 = true then ((impl_within.f a1 1 300).bind fun t309 => (impl_TurnsCut.j0 k l0 a1 (!t309))) else (impl_TurnsCut.j0 k l0 a1 true))) = some (r1, r2) := h
 clear h
 have HC3 := A_ H
 clear H
 go_enter Try.func41, Try.ntmps41
 go_upto_region 1 with (fail)
 go_cut [16] (fun v16 wc => ∃ (kq : Nat) (x16_2 : Bool), v16 = .bool x16_2 ∧ Aside0 (impl_TurnsCut.j0 kq l0 a1 x16_2 = some (r1, r2)) ∧ Aside0 (kq ≤ k) ∧ Aside0 (Below w.heap.size w wc))
 case first =>
  have H := HC3.out
  clear HC3
  replace H := Option.bind_eq_some_iff.mp H
  obtain ⟨t308, A40, H⟩ := H
  replace H : (if t308 = true then ((impl_within.f a1 1 300).bind fun t309 => (impl_TurnsCut.j0 k l0 a1 (!t309))) else (impl_TurnsCut.j0 k l0 a1 true)) = some (r1, r2) := H
  have A4 := A_ A40
  clear A40
  by_cases c5 : t308 = true
  ·subst c5
   have H1 : ((impl_within.f a1 1 300).bind fun t309 => (impl_TurnsCut.j0 k l0 a1 (!t309))) = some (r1, r2) := by rw [if_pos rfl] at H; exact H
   clear H
   have H := H1
   clear H1
   replace H := Option.bind_eq_some_iff.mp H
   obtain ⟨t309, A60, H⟩ := H
   replace H : (impl_TurnsCut.j0 k l0 a1 (!t309)) = some (r1, r2) := H
   have A6 := A_ A60
   clear A60
   have H' := A_ H
   clear H
   go_wp2_with (first | ((with_reducible refine gate_callee (f := 84) rfl ?_); refine goesL_ (some 10) rfl rfl Try.func84 (by kernel_rfl) rfl #[.slice A0 l0.length c0] rfl Z3 ?_; (with_reducible refine (impl_TurnsOk.calls k _ _ l0 true _ ?side1 ?side2 A4.out).mono ?_); (case side1 => exact Z6 HR0.out); (case side2 => exact HC0.out); rintro e w7 ⟨rfl, hb⟩; refine ⟨_, rfl, ?_⟩; have n0_ := A_ (below_step Z0 hb); clear HB; have HB := n0_; clear n0_; (try clear hb); (try clear hb2); (try clear hk); (try clear hi)) | (go_at_call 52; (with_reducible refine (impl_within.calls a1 1 300 t309 _ A6.out).mono ?_); rintro e w' ⟨rfl, ⟨nd, rfl⟩⟩))
   go_meet
   case rel => exact ⟨_, (!t309), Z12, H', ⟨by first | omega | exact Nat.le_refl _⟩, ⟨Z0⟩⟩
  ·replace c5 := Bool.eq_false_iff.mpr c5
   subst c5
   have H1 : (impl_TurnsCut.j0 k l0 a1 true) = some (r1, r2) := by rw [if_neg (show ¬ (false = true) by decide)] at H; exact H
   clear H
   have H := H1
   clear H1
   have H' := A_ H
   clear H
   go_wp2_with (first | ((with_reducible refine gate_callee (f := 84) rfl ?_); refine goesL_ (some 10) rfl rfl Try.func84 (by kernel_rfl) rfl #[.slice A0 l0.length c0] rfl Z3 ?_; (with_reducible refine (impl_TurnsOk.calls k _ _ l0 false _ ?side1 ?side2 A4.out).mono ?_); (case side1 => exact Z6 HR0.out); (case side2 => exact HC0.out); rintro e w8 ⟨rfl, hb⟩; refine ⟨_, rfl, ?_⟩; have n0_ := A_ (below_step Z0 hb); clear HB; have HB := n0_; clear n0_; (try clear hb); (try clear hb2); (try clear hk); (try clear hi)))
   go_meet
   case rel => exact ⟨_, (true), Z12, H', ⟨by first | omega | exact Nat.le_refl _⟩, ⟨Z0⟩⟩
 case rest =>
  clear HC3
  try clear p2
  try clear c4
  try clear c5
  try clear c8
  obtain ⟨kq, x16_2, rfl, HA, HJ2, HB⟩ := hcut
  cases kq with
  | zero => exact absurd HA.out (by simp [impl_TurnsCut.j0])
  | succ kj2 =>
   have H := HA.out
   clear HA
   simp only [impl_TurnsCut.j0] at H
   by_cases c9 : x16_2 = true
   ·subst c9
    have H1 : (some (([] : List (S122)), false)) = some (r1, r2) := by rw [if_pos rfl] at H; exact H
    clear H
    have H := H1
    clear H1
    simp only [Option.some.injEq, Prod.mk.injEq] at H
    obtain ⟨rfl, rfl⟩ := H
    go_wp2
    go_ret2
    exact ⟨_, Z4, Z43, Z0⟩
   ·replace c9 := Bool.eq_false_iff.mpr c9
    subst c9
    have H1 : (impl_TurnsCut.l0 kj2 a1 ([] : List (S122)) l0 (l0.length : Int) 0) = some (r1, r2) := by rw [if_neg (show ¬ (false = true) by decide)] at H; exact H
    clear H
    have H := H1
    clear H1
    have H' := A_ H
    clear H
    go_wp2
    go_loopg [6, 19] kj2 (fun kq v6 v19 w' => ∃ (x6_2 : List (S122)) (x19_2 : Int), v19 = .int .i64 x19_2 ∧ Aside0 (impl_TurnsCut.l0 kq a1 x6_2 l0 (l0.length : Int) x19_2 = some (r1, r2)) ∧ Aside0 (kq ≤ kj2) ∧ Aside0 (Kd.S k122 122 w' w.heap.size (fun _ => True) v6 x6_2) ∧ Aside0 (Below w.heap.size w w'))
    case atStart => exact ⟨(([] : List (S122))), (0), Z12, H', ⟨Nat.le_refl _⟩, ⟨Z43⟩, ⟨Z0⟩⟩
    case round =>
     clear H'
     try clear p2
     try clear c4
     try clear c5
     try clear c8
     try clear c9
     try clear p2
     obtain ⟨x6_2, x19_2, rfl, HA, HK2, HO_6, HB⟩ := hrel
     cases gk with
     | zero => exact absurd HA.out (by simp [impl_TurnsCut.l0])
     | succ k2 =>
      have H := HA.out
      clear HA
      simp only [impl_TurnsCut.l0] at H
      by_cases c10 : x19_2 < (l0.length : Int)
      ·rw [if_pos c10] at H
       have c10b0 : decide (x19_2 < (l0.length : Int)) = true := decide_eq_true c10
       clear c10
       by_cases c11 : 0 ≤ x19_2
       ·rw [if_pos c11] at H
        have c11b0 : decide (0 ≤ x19_2) = true := decide_eq_true c11
        clear c11
        by_cases c12 : x19_2 < (l0.length : Int)
        ·rw [if_pos c12] at H
         have c12b0 : decide (x19_2 < (l0.length : Int)) = true := decide_eq_true c12
         clear c12
         have H' := A_ H
         clear H
         have p310 : 0 ≤ (x19_2 : Int) := of_decide_eq_true Z7
         have q310 : x19_2 < (l0.length : Int) := of_decide_eq_true Z7
         obtain ⟨ad310, A310_2, c310_2, A310_4, c310_4, e310, hx310_0, hx310_1, hx310_2, hx310_3, hx310_4, hx310_5, hl310_2, hi310_2, hl310_4, hi310_4⟩ := at_T122 HR0.out x19_2 p310 q310
         cases e310
         replace hx310_0 := ZC HB.out hx310_0
         replace hx310_1 := ZC HB.out hx310_1
         replace hx310_2 := ZC HB.out hx310_2
         replace hx310_3 := ZC HB.out hx310_3
         replace hx310_4 := ZC HB.out hx310_4
         replace hx310_5 := ZC HB.out hx310_5
         have HR310_2 := A_ hi310_2
         have HC310_2 := A_ hl310_2
         clear hi310_2 hl310_2
         have HR310_4 := A_ hi310_4
         have HC310_4 := A_ hl310_4
         clear hi310_4 hl310_4
         replace p310 := eq_true p310
         replace q310 := eq_true q310
         go_wp2_with (first | ((with_reducible refine gate_dst (N := 8) rfl ?_); refine box_event ?hg (N := 8) ?hd (cs := #[.int .i64 0, .int .i64 0, .slice none 0 0, .int .i64 0, .slice none 0 0, .int .i64 0]) (t := 122) ?hr ?_; (case hd => rfl); (case hg => rfl); (case hr => exact Z11); intro gb311 hg w13 hbox hb; have n0_ := A_ (Kd.S_below (Kd.S_elderB (Z9 HO_6.out) gb311 (Nat.le_of_eq hg.symm)) hb); have n1_ := A_ (below_step Z0 hb); have n2_ := A_ (hbox); have n3_ := A_ ((by rw [hg]; exact (below_size Z0) : w.heap.size ≤ gb311)); have n4_ := A_ ((by rw [hg]; exact (below_size Z0) : w.heap.size ≤ gb311)); clear HO_6; clear HB; have HO_6 := n0_; have HB := n1_; have BK311 := n2_; have GW311 := n3_; have GE311 := n4_; clear n0_ n1_ n2_ n3_ n4_; clear hb hbox hg; have hcz14_0 : w13.cell? ⟨gb311, 0, none⟩ = some (.int .i64 0) := (blk_cell BK311.out 0).trans rfl; have hcz14_1 : w13.cell? ⟨gb311, 1, none⟩ = some (.int .i64 0) := (blk_cell BK311.out 1).trans rfl; have hcz14_2 : w13.cell? ⟨gb311, 2, none⟩ = some (.slice none 0 0) := (blk_cell BK311.out 2).trans rfl; have hcz14_3 : w13.cell? ⟨gb311, 3, none⟩ = some (.int .i64 0) := (blk_cell BK311.out 3).trans rfl; have hcz14_4 : w13.cell? ⟨gb311, 4, none⟩ = some (.slice none 0 0) := (blk_cell BK311.out 4).trans rfl; have hcz14_5 : w13.cell? ⟨gb311, 5, none⟩ = some (.int .i64 0) := (blk_cell BK311.out 5).trans rfl; have hfz14_0 := blk_frozen BK311.out 0; have hfz14_1 := blk_frozen BK311.out 1; have hfz14_2 := blk_frozen BK311.out 2; have hfz14_3 := blk_frozen BK311.out 3; have hfz14_4 := blk_frozen BK311.out 4; have hfz14_5 := blk_frozen BK311.out 5))
         go_loopg [6] k2 (fun kq v6 w' => ∃ (x6_3 : List (S122)) (x312001_3 : Int), Aside0 (impl_TurnsCut.l1 kq a1 x6_3 l0 (l0.length : Int) x19_2 ((rd_T122 l0 x19_2).f0) x312001_3 ((rd_T122 l0 x19_2).f2.f0) ((rd_T122 l0 x19_2).f2.f1) ((rd_T122 l0 x19_2).f2.f2) ((rd_T122 l0 x19_2).f2.f3) = some (r1, r2)) ∧ Aside0 (kq ≤ k2) ∧ Aside0 (Kd.S k122 122 w' w.heap.size (fun k_ => k_ ≠ gb311) v6 x6_3) ∧ Aside0 (w'.heap[gb311]? = some (.cells #[.int .i64 ((rd_T122 l0 x19_2).f0), .int .i64 x312001_3, (.slice A310_2 ((rd_T122 l0 x19_2).f2.f0).length c310_2), .int .i64 ((rd_T122 l0 x19_2).f2.f1), (.slice A310_4 ((rd_T122 l0 x19_2).f2.f2).length c310_4), .int .i64 ((rd_T122 l0 x19_2).f2.f3)] 122 (0, 0))) ∧ Aside0 (Below w.heap.size w w'))
         case atStart => exact ⟨(x6_2), ((rd_T122 l0 x19_2).f1), H', ⟨Nat.le_refl _⟩, ⟨by (with_reducible repeat (first | apply Kd.S_alloc | apply Kd.S_drewN | apply Kd.S_drew)); exact Kd.S_mono (Kd.S_far (p := ⟨gb311, 5, none⟩) (Kd.S_far (p := ⟨gb311, 4, none⟩) (Kd.S_far (p := ⟨gb311, 3, none⟩) (Kd.S_far (p := ⟨gb311, 2, none⟩) (Kd.S_far (p := ⟨gb311, 1, none⟩) (Kd.S_far (p := ⟨gb311, 0, none⟩) (Kd.S_mono HO_6.out (fun k_ hk => (⟨hk, hk.2⟩ : _ ∧ k_ ≠ gb311))) (fun _ hk => hk.2) (.int .i64 ((rd_T122 l0 x19_2).f0))) (fun _ hk => hk.2) (.int .i64 ((rd_T122 l0 x19_2).f1))) (fun _ hk => hk.2) (.slice A310_2 ((rd_T122 l0 x19_2).f2.f0).length c310_2)) (fun _ hk => hk.2) (.int .i64 ((rd_T122 l0 x19_2).f2.f1))) (fun _ hk => hk.2) (.slice A310_4 ((rd_T122 l0 x19_2).f2.f2).length c310_4)) (fun _ hk => hk.2) (.int .i64 ((rd_T122 l0 x19_2).f2.f3))) (fun _ hk => hk.1.2)⟩, ⟨by (with_reducible repeat (first | refine blk_drewN ?_ _ | refine blk_drew ?_ | refine blk_alloc ?_ _)); refine blk_put (cs := #[.int .i64 ((rd_T122 l0 x19_2).f0), .int .i64 ((rd_T122 l0 x19_2).f1), .slice A310_2 ((rd_T122 l0 x19_2).f2.f0).length c310_2, .int .i64 ((rd_T122 l0 x19_2).f2.f1), .slice A310_4 ((rd_T122 l0 x19_2).f2.f2).length c310_4, .int .i64 0]) ?_ 5 _ rfl; (with_reducible repeat (first | refine blk_drewN ?_ _ | refine blk_drew ?_ | refine blk_alloc ?_ _)); refine blk_put (cs := #[.int .i64 ((rd_T122 l0 x19_2).f0), .int .i64 ((rd_T122 l0 x19_2).f1), .slice A310_2 ((rd_T122 l0 x19_2).f2.f0).length c310_2, .int .i64 ((rd_T122 l0 x19_2).f2.f1), .slice none 0 0, .int .i64 0]) ?_ 4 _ rfl; (with_reducible repeat (first | refine blk_drewN ?_ _ | refine blk_drew ?_ | refine blk_alloc ?_ _)); refine blk_put (cs := #[.int .i64 ((rd_T122 l0 x19_2).f0), .int .i64 ((rd_T122 l0 x19_2).f1), .slice A310_2 ((rd_T122 l0 x19_2).f2.f0).length c310_2, .int .i64 0, .slice none 0 0, .int .i64 0]) ?_ 3 _ rfl; (with_reducible repeat (first | refine blk_drewN ?_ _ | refine blk_drew ?_ | refine blk_alloc ?_ _)); refine blk_put (cs := #[.int .i64 ((rd_T122 l0 x19_2).f0), .int .i64 ((rd_T122 l0 x19_2).f1), .slice none 0 0, .int .i64 0, .slice none 0 0, .int .i64 0]) ?_ 2 _ rfl; (with_reducible repeat (first | refine blk_drewN ?_ _ | refine blk_drew ?_ | refine blk_alloc ?_ _)); refine blk_put (cs := #[.int .i64 ((rd_T122 l0 x19_2).f0), .int .i64 0, .slice none 0 0, .int .i64 0, .slice none 0 0, .int .i64 0]) ?_ 1 _ rfl; (with_reducible repeat (first | refine blk_drewN ?_ _ | refine blk_drew ?_ | refine blk_alloc ?_ _)); refine blk_put (cs := #[.int .i64 0, .int .i64 0, .slice none 0 0, .int .i64 0, .slice none 0 0, .int .i64 0]) ?_ 0 _ rfl; (with_reducible repeat (first | refine blk_drewN ?_ _ | refine blk_drew ?_ | refine blk_alloc ?_ _)); exact BK311.out⟩, ⟨Z1 GE311.out⟩⟩
         case round =>
          clear H'
          try clear c1
          try clear p2
          try clear c3
          try clear p3
          try clear q3
          try clear hx3
          try clear c4
          try clear c5
          try clear c8
          try clear c9
          try clear c10
          try clear c10b0
          try clear c11
          try clear c11b0
          try clear c12
          try clear c12b0
          try clear hcz14_0
          try clear hcz14_1
          try clear hcz14_2
          try clear hcz14_3
          try clear hcz14_4
          try clear hcz14_5
          try clear hfz14_0
          try clear hfz14_1
          try clear hfz14_2
          try clear hfz14_3
          try clear hfz14_4
          try clear hfz14_5
          try clear hx310_0
          try clear hx310_1
          try clear hx310_2
          try clear hx310_3
          try clear hx310_4
          try clear hx310_5
          try clear p2
          try clear p310
          try clear q310
          obtain ⟨x6_3, x312001_3, HA, HK3, HO_6, BK311, HB⟩ := hrel
          cases gk with
          | zero => exact absurd HA.out (by simp [impl_TurnsCut.l1])
          | succ k3 =>
           have H := HA.out
           clear HA
           simp only [impl_TurnsCut.l1] at H
           by_cases c15 : ((rd_T122 l0 x19_2).f0) = 1
           ·rw [if_pos c15] at H
            have c15b0 : (((rd_T122 l0 x19_2).f0) == 1) = true := beq_iff_eq.mpr c15
            have c15b1 : (((rd_T122 l0 x19_2).f0) != 1) = false := bne_eq_false_iff_eq.mpr c15
            clear c15
            by_cases c16 : x312001_3 > a1
            ·rw [if_pos c16] at H
             have c16b0 : decide (a1 < x312001_3) = true := decide_eq_true c16
             clear c16
             by_cases c17 : x6_3.length < 1759218604441
             ·rw [if_pos c17] at H
              have LMc17 := A_ c17
              clear c17
              obtain ⟨y312, hy312⟩ : ∃ y_ : List (S122), y_ = (x6_3 ++ [(⟨1, a1, (⟨([] : List (S92)), 0, ([] : List (S137)), 0⟩ : S120)⟩ : S122)]) := ⟨_, rfl⟩
              replace H : (impl_TurnsCut.l1 k3 a1 y312 l0 (l0.length : Int) x19_2 ((rd_T122 l0 x19_2).f0) (wrap64 (x312001_3 - a1)) ((rd_T122 l0 x19_2).f2.f0) ((rd_T122 l0 x19_2).f2.f1) ((rd_T122 l0 x19_2).f2.f2) ((rd_T122 l0 x19_2).f2.f3)) = some (r1, r2) := by first | (rw [hy312]; with_reducible exact H) | (have H2_ := (Option.bind_some _ _).symm.trans H; rw [hy312]; with_reducible exact H2_) | (have H2_ := (Option.bind_some _ _).symm.trans H; with_reducible exact H2_) | with_reducible exact H | (rw [hy312]; exact H) | exact H
              have Ny312 := A_ hy312
              clear hy312
              have H' := A_ H
              clear H
              have hcz18_0 : wr.cell? ⟨gb311, 0, none⟩ = some (.int .i64 ((rd_T122 l0 x19_2).f0)) := (blk_cell BK311.out 0).trans rfl
              have hcz18_1 : wr.cell? ⟨gb311, 1, none⟩ = some (.int .i64 x312001_3) := (blk_cell BK311.out 1).trans rfl
              have hcz18_2 : wr.cell? ⟨gb311, 2, none⟩ = some (.slice A310_2 ((rd_T122 l0 x19_2).f2.f0).length c310_2) := (blk_cell BK311.out 2).trans rfl
              have hcz18_3 : wr.cell? ⟨gb311, 3, none⟩ = some (.int .i64 ((rd_T122 l0 x19_2).f2.f1)) := (blk_cell BK311.out 3).trans rfl
              have hcz18_4 : wr.cell? ⟨gb311, 4, none⟩ = some (.slice A310_4 ((rd_T122 l0 x19_2).f2.f2).length c310_4) := (blk_cell BK311.out 4).trans rfl
              have hcz18_5 : wr.cell? ⟨gb311, 5, none⟩ = some (.int .i64 ((rd_T122 l0 x19_2).f2.f3)) := (blk_cell BK311.out 5).trans rfl
              have hfz18_0 := blk_frozen BK311.out 0
              have hfz18_1 := blk_frozen BK311.out 1
              have hfz18_2 := blk_frozen BK311.out 2
              have hfz18_3 := blk_frozen BK311.out 3
              have hfz18_4 := blk_frozen BK311.out 4
              have hfz18_5 := blk_frozen BK311.out 5
              go_wp2_with (first | ((with_reducible refine gate_builtin (b := .append) (xs := #[.tmp 32, .tmp 35]) rfl ?_); at_builtin; refine Kd.S_append k122 (w0 := w) w.heap.size rfl (.tmp 32) (.tmp 35) 61 122 (.agg #[(.int .i64 0), (.int .i64 0), (.slice none 0 0), (.int .i64 0), (.slice none 0 0), (.int .i64 0)]) 80 rfl Try.underlying61 info122 rfl (by decide) (by omega) u6 x6_3 (⟨1, a1, (⟨([] : List (S92)), 0, ([] : List (S137)), 0⟩ : S120)⟩ : S122) [.int .i64 1, .int .i64 a1, .slice none 0 0, .int .i64 0, .slice none 0 0, .int .i64 0] (fun k_ => k_ ≠ gb311) (fun _ => False) rfl rfl ?aP (fun k_ hk_ => hk_.elim) ?aF ?aO ?aB ?aS ?aL ?_; (case aP => exact k122_mkM _ _ _ (⟨1, a1, (⟨([] : List (S92)), 0, ([] : List (S137)), 0⟩ : S120)⟩ : S122) (Kd.R_nil _ _ _ _ _) (Kd.R_nil _ _ _ _ _)); (case aB => exact (Z1 GE311.out)); (case aF => exact (fun k_ hk => Kd.freshB (g := gb311) (o := .cells #[.int .i64 ((rd_T122 l0 x19_2).f0), .int .i64 x312001_3, .slice A310_2 ((rd_T122 l0 x19_2).f2.f0).length c310_2, .int .i64 ((rd_T122 l0 x19_2).f2.f1), .slice A310_4 ((rd_T122 l0 x19_2).f2.f2).length c310_4, .int .i64 ((rd_T122 l0 x19_2).f2.f3)] 122 (0, 0)) (Z2 BK311.out) k_ hk)); (case aO => exact (by (with_reducible repeat (first | apply Kd.S_alloc | apply Kd.S_drewN | apply Kd.S_drew)); exact Kd.S_mono HO_6.out (fun k_ hk => ⟨hk, fun e_ => e_⟩))); (case aS => exact (below_size (Z1 GE311.out))); (case aL => have := LMc17.out; omega); intro v313 w19 ho hb hg hat; rw [← Ny312.out] at ho; have n0_ := A_ (blk_grown (g := gb311) (o := .cells #[.int .i64 ((rd_T122 l0 x19_2).f0), .int .i64 x312001_3, .slice A310_2 ((rd_T122 l0 x19_2).f2.f0).length c310_2, .int .i64 ((rd_T122 l0 x19_2).f2.f1), .slice A310_4 ((rd_T122 l0 x19_2).f2.f2).length c310_4, .int .i64 ((rd_T122 l0 x19_2).f2.f3)] 122 (0, 0)) (Z2 BK311.out) hg (Kd.S_away HO_6.out (fun _ hk => hk))); have n1_ := A_ (hb); have n2_ := A_ (ho); clear BK311; clear HB; clear HO_6; have BK311 := n0_; have HB := n1_; have HO314 := n2_; clear n0_ n1_ n2_; clear ho hb hg hat; have hcz20_0 : w19.cell? ⟨gb311, 0, none⟩ = some (.int .i64 ((rd_T122 l0 x19_2).f0)) := (blk_cell BK311.out 0).trans rfl; have hcz20_1 : w19.cell? ⟨gb311, 1, none⟩ = some (.int .i64 x312001_3) := (blk_cell BK311.out 1).trans rfl; have hcz20_2 : w19.cell? ⟨gb311, 2, none⟩ = some (.slice A310_2 ((rd_T122 l0 x19_2).f2.f0).length c310_2) := (blk_cell BK311.out 2).trans rfl; have hcz20_3 : w19.cell? ⟨gb311, 3, none⟩ = some (.int .i64 ((rd_T122 l0 x19_2).f2.f1)) := (blk_cell BK311.out 3).trans rfl; have hcz20_4 : w19.cell? ⟨gb311, 4, none⟩ = some (.slice A310_4 ((rd_T122 l0 x19_2).f2.f2).length c310_4) := (blk_cell BK311.out 4).trans rfl; have hcz20_5 : w19.cell? ⟨gb311, 5, none⟩ = some (.int .i64 ((rd_T122 l0 x19_2).f2.f3)) := (blk_cell BK311.out 5).trans rfl; have hfz20_0 := blk_frozen BK311.out 0; have hfz20_1 := blk_frozen BK311.out 1; have hfz20_2 := blk_frozen BK311.out 2; have hfz20_3 := blk_frozen BK311.out 3; have hfz20_4 := blk_frozen BK311.out 4; have hfz20_5 := blk_frozen BK311.out 5))
              go_roundg k3
              case measure => have := HJ2.out; have := HK2.out; have := HK3.out; omega
              case rel => exact ⟨(y312), (wrap64 (x312001_3 - a1)), H', ⟨by have := HJ2.out; have := HK2.out; have := HK3.out; omega⟩, ⟨by (with_reducible repeat (first | apply Kd.S_alloc | apply Kd.S_drewN | apply Kd.S_drew)); exact Kd.S_mono (Kd.S_far (p := ⟨gb311, 1, none⟩) (Kd.S_mono HO314.out (fun k_ hk => (⟨hk, hk⟩ : _ ∧ k_ ≠ gb311))) (fun _ hk => hk.2) (.int .i64 (wrap64 (x312001_3 - a1)))) (fun _ hk => hk.1)⟩, ⟨by (with_reducible repeat (first | refine blk_drewN ?_ _ | refine blk_drew ?_ | refine blk_alloc ?_ _)); refine blk_put (cs := #[.int .i64 ((rd_T122 l0 x19_2).f0), .int .i64 x312001_3, .slice A310_2 ((rd_T122 l0 x19_2).f2.f0).length c310_2, .int .i64 ((rd_T122 l0 x19_2).f2.f1), .slice A310_4 ((rd_T122 l0 x19_2).f2.f2).length c310_4, .int .i64 ((rd_T122 l0 x19_2).f2.f3)]) ?_ 1 _ rfl; (with_reducible repeat (first | refine blk_drewN ?_ _ | refine blk_drew ?_ | refine blk_alloc ?_ _)); exact BK311.out⟩, ⟨Z1 GE311.out⟩⟩
             ·rw [if_neg c17] at H
              exact absurd H (by simp)
            ·rw [if_neg c16] at H
             have c16b0 : decide (a1 < x312001_3) = false := decide_eq_false c16
             clear c16
             replace H := Option.bind_eq_some_iff.mp H
             obtain ⟨⟨t315, t316, t317, t320, t321, t324⟩, A210, H⟩ := H
             replace H : (if x6_3.length < 1759218604441 then (impl_TurnsCut.l0 k3 a1 (x6_3 ++ [(⟨t315, t316, (⟨t317, t320, t321, t324⟩ : S120)⟩ : S122)]) l0 (l0.length : Int) (wrap64 (x19_2 + 1))) else (none)) = some (r1, r2) := H
             have A21 := A_ A210
             clear A210
             by_cases c22 : x6_3.length < 1759218604441
             ·rw [if_pos c22] at H
              have LMc22 := A_ c22
              clear c22
              obtain ⟨y325, hy325⟩ : ∃ y_ : List (S122), y_ = (x6_3 ++ [(⟨t315, t316, (⟨t317, t320, t321, t324⟩ : S120)⟩ : S122)]) := ⟨_, rfl⟩
              replace H : (impl_TurnsCut.l0 k3 a1 y325 l0 (l0.length : Int) (wrap64 (x19_2 + 1))) = some (r1, r2) := by first | (rw [hy325]; with_reducible exact H) | (have H2_ := (Option.bind_some _ _).symm.trans H; rw [hy325]; with_reducible exact H2_) | (have H2_ := (Option.bind_some _ _).symm.trans H; with_reducible exact H2_) | with_reducible exact H | (rw [hy325]; exact H) | exact H
              have Ny325 := A_ hy325
              clear hy325
              have H' := A_ H
              clear H
              have hcz23_0 : wr.cell? ⟨gb311, 0, none⟩ = some (.int .i64 ((rd_T122 l0 x19_2).f0)) := (blk_cell BK311.out 0).trans rfl
              have hcz23_1 : wr.cell? ⟨gb311, 1, none⟩ = some (.int .i64 x312001_3) := (blk_cell BK311.out 1).trans rfl
              have hcz23_2 : wr.cell? ⟨gb311, 2, none⟩ = some (.slice A310_2 ((rd_T122 l0 x19_2).f2.f0).length c310_2) := (blk_cell BK311.out 2).trans rfl
              have hcz23_3 : wr.cell? ⟨gb311, 3, none⟩ = some (.int .i64 ((rd_T122 l0 x19_2).f2.f1)) := (blk_cell BK311.out 3).trans rfl
              have hcz23_4 : wr.cell? ⟨gb311, 4, none⟩ = some (.slice A310_4 ((rd_T122 l0 x19_2).f2.f2).length c310_4) := (blk_cell BK311.out 4).trans rfl
              have hcz23_5 : wr.cell? ⟨gb311, 5, none⟩ = some (.int .i64 ((rd_T122 l0 x19_2).f2.f3)) := (blk_cell BK311.out 5).trans rfl
              have hfz23_0 := blk_frozen BK311.out 0
              have hfz23_1 := blk_frozen BK311.out 1
              have hfz23_2 := blk_frozen BK311.out 2
              have hfz23_3 := blk_frozen BK311.out 3
              have hfz23_4 := blk_frozen BK311.out 4
              have hfz23_5 := blk_frozen BK311.out 5
              go_wp2_with (first | ((with_reducible refine gate_callee (f := 85) rfl ?_); refine goesL_ (some 44) rfl rfl Try.func85 (by kernel_rfl) rfl #[.agg #[.int .i64 ((rd_T122 l0 x19_2).f0), .int .i64 x312001_3, .slice A310_2 ((rd_T122 l0 x19_2).f2.f0).length c310_2, .int .i64 ((rd_T122 l0 x19_2).f2.f1), .slice A310_4 ((rd_T122 l0 x19_2).f2.f2).length c310_4, .int .i64 ((rd_T122 l0 x19_2).f2.f3)]] rfl Z3 ?_; (with_reducible refine (impl_turnCopy.calls ((rd_T122 l0 x19_2).f0) x312001_3 _ _ ((rd_T122 l0 x19_2).f2.f0) ((rd_T122 l0 x19_2).f2.f1) _ _ ((rd_T122 l0 x19_2).f2.f2) ((rd_T122 l0 x19_2).f2.f3) t315 t316 t317 t320 t321 t324 _ ?side1 ?side2 ?side3 ?side4 A21.out).mono ?_); (case side1 => exact Z6 HR310_2.out); (case side2 => exact HC310_2.out); (case side3 => exact Z6 HR310_4.out); (case side4 => exact HC310_4.out); rintro e w24 ⟨v318, v322, rfl, ho0, ho1, hb⟩; refine ⟨_, rfl, ?_⟩; have n0_ := A_ (Kd.S_mono (Kd.S_told (Kd.S_told (Kd.S_old (Z9 HO_6.out) hb) (Kd.R_base ho0)) (Kd.R_base ho1)) (fun _ h_ => h_.1)); have n1_ := A_ (Kd.R_lower ho0 (below_size (Z1 GE311.out))); have n2_ := A_ (Kd.R_lower ho1 (below_size (Z1 GE311.out))); have n3_ := A_ (blk_below (g := gb311) (o := .cells #[.int .i64 ((rd_T122 l0 x19_2).f0), .int .i64 x312001_3, .slice A310_2 ((rd_T122 l0 x19_2).f2.f0).length c310_2, .int .i64 ((rd_T122 l0 x19_2).f2.f1), .slice A310_4 ((rd_T122 l0 x19_2).f2.f2).length c310_4, .int .i64 ((rd_T122 l0 x19_2).f2.f3)] 122 (0, 0)) (Z2 BK311.out) hb); have n4_ := A_ (below_step (Z1 GE311.out) hb); clear HO_6; clear BK311; clear HB; have HO_6 := n0_; have HO319 := n1_; have HO323 := n2_; have BK311 := n3_; have HB := n4_; clear n0_ n1_ n2_ n3_ n4_; (try clear hb); (try clear hb2); (try clear hk); (try clear hi); (try clear ho0); (try clear ho1); obtain ⟨Ao26, co26, eo26⟩ := Kd.R_slice HO319.out; subst eo26; obtain ⟨Ao27, co27, eo27⟩ := Kd.R_slice HO323.out; subst eo27) | ((with_reducible refine gate_builtin (b := .append) (xs := #[.tmp 42, .tmp 45]) rfl ?_); at_builtin; refine Kd.S_append k122 (w0 := w) w.heap.size rfl (.tmp 42) (.tmp 45) 61 122 (.agg #[(.int .i64 0), (.int .i64 0), (.slice none 0 0), (.int .i64 0), (.slice none 0 0), (.int .i64 0)]) 80 rfl Try.underlying61 info122 rfl (by decide) (by omega) u6 x6_3 (⟨t315, t316, (⟨t317, t320, t321, t324⟩ : S120)⟩ : S122) [.int .i64 t315, .int .i64 t316, .slice Ao26 t317.length co26, .int .i64 t320, .slice Ao27 t321.length co27, .int .i64 t324] (fun k_ => k_ ≠ gb311) (fun k_ => some k_ = (.slice Ao26 t317.length co26 : Value).ownBlock ∨ some k_ = (.slice Ao27 t321.length co27 : Value).ownBlock) rfl rfl ?aP (fun k_ hk_ => hk_.elim (fun h_ => ((Kd.R_mono (ok' := fun k_ => ((fun k_ => k_ ≠ gb311)) k_ ∧ some k_ ≠ (u6 : Value).ownBlock) (Kd.R_types (Kd.R_apart' (HO319.out) (Kd.S_typed HO_6.out) (by decide)) BK311.out (by decide)) (fun k_ hk => ⟨hk.2, hk.1.2⟩))).1 k_ h_.symm) (fun h_ => ((Kd.R_mono (ok' := fun k_ => ((fun k_ => k_ ≠ gb311)) k_ ∧ some k_ ≠ (u6 : Value).ownBlock) (Kd.R_types (Kd.R_apart' (HO323.out) (Kd.S_typed HO_6.out) (by decide)) BK311.out (by decide)) (fun k_ hk => ⟨hk.2, hk.1.2⟩))).1 k_ h_.symm)) ?aF ?aO ?aB ?aS ?aL ?_; (case aP => exact k122_mkM _ _ _ (⟨t315, t316, (⟨t317, t320, t321, t324⟩ : S120)⟩ : S122) (Kd.R_mono (Kd.R_tight rfl (Kd.R_mono (ok' := fun k_ => ((fun k_ => k_ ≠ gb311)) k_ ∧ some k_ ≠ (u6 : Value).ownBlock) (Kd.R_types (Kd.R_apart' (HO319.out) (Kd.S_typed HO_6.out) (by decide)) BK311.out (by decide)) (fun k_ hk => ⟨hk.2, hk.1.2⟩))) (fun _ h_ => Or.inl h_)) (Kd.R_mono (Kd.R_tight rfl (Kd.R_mono (ok' := fun k_ => ((fun k_ => k_ ≠ gb311)) k_ ∧ some k_ ≠ (u6 : Value).ownBlock) (Kd.R_types (Kd.R_apart' (HO323.out) (Kd.S_typed HO_6.out) (by decide)) BK311.out (by decide)) (fun k_ hk => ⟨hk.2, hk.1.2⟩))) (fun _ h_ => Or.inr (h_)))); (case aB => exact (Z1 GE311.out)); (case aF => exact (fun k_ hk => Kd.freshB (g := gb311) (o := .cells #[.int .i64 ((rd_T122 l0 x19_2).f0), .int .i64 x312001_3, .slice A310_2 ((rd_T122 l0 x19_2).f2.f0).length c310_2, .int .i64 ((rd_T122 l0 x19_2).f2.f1), .slice A310_4 ((rd_T122 l0 x19_2).f2.f2).length c310_4, .int .i64 ((rd_T122 l0 x19_2).f2.f3)] 122 (0, 0)) (Z2 BK311.out) k_ hk)); (case aO => exact (by (with_reducible repeat (first | apply Kd.S_alloc | apply Kd.S_drewN | apply Kd.S_drew)); exact Kd.S_mono HO_6.out (fun k_ hk => ⟨hk.1.1, fun e_ => e_.elim (fun h_ => hk.1.2 h_) (fun h_ => hk.2 h_)⟩))); (case aS => exact (below_size (Z1 GE311.out))); (case aL => have := LMc22.out; omega); intro v326 w25 ho hb hg hat; rw [← Ny325.out] at ho; have n0_ := A_ (blk_grown (g := gb311) (o := .cells #[.int .i64 ((rd_T122 l0 x19_2).f0), .int .i64 x312001_3, .slice A310_2 ((rd_T122 l0 x19_2).f2.f0).length c310_2, .int .i64 ((rd_T122 l0 x19_2).f2.f1), .slice A310_4 ((rd_T122 l0 x19_2).f2.f2).length c310_4, .int .i64 ((rd_T122 l0 x19_2).f2.f3)] 122 (0, 0)) (Z2 BK311.out) hg (Kd.S_away HO_6.out (fun _ hk => hk.1.1))); have n1_ := A_ (hb); have n2_ := A_ (ho); clear BK311; clear HB; clear HO_6; clear HO319; clear HO323; have BK311 := n0_; have HB := n1_; have HO327 := n2_; clear n0_ n1_ n2_; clear ho hb hg hat))
              go_roundg k3
              case measure => have := HJ2.out; have := HK2.out; have := HK3.out; omega
              case rel => exact ⟨(y325), (wrap64 (x19_2 + 1)), Z12, H', ⟨by have := HJ2.out; have := HK2.out; have := HK3.out; omega⟩, ⟨Z45 HO327.out⟩, ⟨Z1 GE311.out⟩⟩
             ·rw [if_neg c22] at H
              exact absurd H (by simp)
           ·rw [if_neg c15] at H
            have c15b0 : (((rd_T122 l0 x19_2).f0) == 1) = false := beq_eq_false_iff_ne.mpr c15
            have c15b1 : (((rd_T122 l0 x19_2).f0) != 1) = true := bne_iff_ne.mpr c15
            replace H := Option.bind_eq_some_iff.mp H
            obtain ⟨⟨t328, t329, t330, t333, t334, t337⟩, A280, H⟩ := H
            replace H : (if x6_3.length < 1759218604441 then (impl_TurnsCut.l0 k3 a1 (x6_3 ++ [(⟨t328, t329, (⟨t330, t333, t334, t337⟩ : S120)⟩ : S122)]) l0 (l0.length : Int) (wrap64 (x19_2 + 1))) else (none)) = some (r1, r2) := H
            have A28 := A_ A280
            clear A280
            by_cases c29 : x6_3.length < 1759218604441
            ·rw [if_pos c29] at H
             have LMc29 := A_ c29
             clear c29
             obtain ⟨y338, hy338⟩ : ∃ y_ : List (S122), y_ = (x6_3 ++ [(⟨t328, t329, (⟨t330, t333, t334, t337⟩ : S120)⟩ : S122)]) := ⟨_, rfl⟩
             replace H : (impl_TurnsCut.l0 k3 a1 y338 l0 (l0.length : Int) (wrap64 (x19_2 + 1))) = some (r1, r2) := by first | (rw [hy338]; with_reducible exact H) | (have H2_ := (Option.bind_some _ _).symm.trans H; rw [hy338]; with_reducible exact H2_) | (have H2_ := (Option.bind_some _ _).symm.trans H; with_reducible exact H2_) | with_reducible exact H | (rw [hy338]; exact H) | exact H
             have Ny338 := A_ hy338
             clear hy338
             have H' := A_ H
             clear H
             have hcz30_0 : wr.cell? ⟨gb311, 0, none⟩ = some (.int .i64 ((rd_T122 l0 x19_2).f0)) := (blk_cell BK311.out 0).trans rfl
             have hcz30_1 : wr.cell? ⟨gb311, 1, none⟩ = some (.int .i64 x312001_3) := (blk_cell BK311.out 1).trans rfl
             have hcz30_2 : wr.cell? ⟨gb311, 2, none⟩ = some (.slice A310_2 ((rd_T122 l0 x19_2).f2.f0).length c310_2) := (blk_cell BK311.out 2).trans rfl
             have hcz30_3 : wr.cell? ⟨gb311, 3, none⟩ = some (.int .i64 ((rd_T122 l0 x19_2).f2.f1)) := (blk_cell BK311.out 3).trans rfl
             have hcz30_4 : wr.cell? ⟨gb311, 4, none⟩ = some (.slice A310_4 ((rd_T122 l0 x19_2).f2.f2).length c310_4) := (blk_cell BK311.out 4).trans rfl
             have hcz30_5 : wr.cell? ⟨gb311, 5, none⟩ = some (.int .i64 ((rd_T122 l0 x19_2).f2.f3)) := (blk_cell BK311.out 5).trans rfl
             have hfz30_0 := blk_frozen BK311.out 0
             have hfz30_1 := blk_frozen BK311.out 1
             have hfz30_2 := blk_frozen BK311.out 2
             have hfz30_3 := blk_frozen BK311.out 3
             have hfz30_4 := blk_frozen BK311.out 4
             have hfz30_5 := blk_frozen BK311.out 5
             go_wp2_with (first | ((with_reducible refine gate_callee (f := 85) rfl ?_); refine goesL_ (some 44) rfl rfl Try.func85 (by kernel_rfl) rfl #[.agg #[.int .i64 ((rd_T122 l0 x19_2).f0), .int .i64 x312001_3, .slice A310_2 ((rd_T122 l0 x19_2).f2.f0).length c310_2, .int .i64 ((rd_T122 l0 x19_2).f2.f1), .slice A310_4 ((rd_T122 l0 x19_2).f2.f2).length c310_4, .int .i64 ((rd_T122 l0 x19_2).f2.f3)]] rfl Z3 ?_; (with_reducible refine (impl_turnCopy.calls ((rd_T122 l0 x19_2).f0) x312001_3 _ _ ((rd_T122 l0 x19_2).f2.f0) ((rd_T122 l0 x19_2).f2.f1) _ _ ((rd_T122 l0 x19_2).f2.f2) ((rd_T122 l0 x19_2).f2.f3) t328 t329 t330 t333 t334 t337 _ ?side1 ?side2 ?side3 ?side4 A28.out).mono ?_); (case side1 => exact Z6 HR310_2.out); (case side2 => exact HC310_2.out); (case side3 => exact Z6 HR310_4.out); (case side4 => exact HC310_4.out); rintro e w31 ⟨v331, v335, rfl, ho0, ho1, hb⟩; refine ⟨_, rfl, ?_⟩; have n0_ := A_ (Kd.S_mono (Kd.S_told (Kd.S_told (Kd.S_old (Z9 HO_6.out) hb) (Kd.R_base ho0)) (Kd.R_base ho1)) (fun _ h_ => h_.1)); have n1_ := A_ (Kd.R_lower ho0 (below_size (Z1 GE311.out))); have n2_ := A_ (Kd.R_lower ho1 (below_size (Z1 GE311.out))); have n3_ := A_ (blk_below (g := gb311) (o := .cells #[.int .i64 ((rd_T122 l0 x19_2).f0), .int .i64 x312001_3, .slice A310_2 ((rd_T122 l0 x19_2).f2.f0).length c310_2, .int .i64 ((rd_T122 l0 x19_2).f2.f1), .slice A310_4 ((rd_T122 l0 x19_2).f2.f2).length c310_4, .int .i64 ((rd_T122 l0 x19_2).f2.f3)] 122 (0, 0)) (Z2 BK311.out) hb); have n4_ := A_ (below_step (Z1 GE311.out) hb); clear HO_6; clear BK311; clear HB; have HO_6 := n0_; have HO332 := n1_; have HO336 := n2_; have BK311 := n3_; have HB := n4_; clear n0_ n1_ n2_ n3_ n4_; (try clear hb); (try clear hb2); (try clear hk); (try clear hi); (try clear ho0); (try clear ho1); obtain ⟨Ao33, co33, eo33⟩ := Kd.R_slice HO332.out; subst eo33; obtain ⟨Ao34, co34, eo34⟩ := Kd.R_slice HO336.out; subst eo34) | ((with_reducible refine gate_builtin (b := .append) (xs := #[.tmp 42, .tmp 45]) rfl ?_); at_builtin; refine Kd.S_append k122 (w0 := w) w.heap.size rfl (.tmp 42) (.tmp 45) 61 122 (.agg #[(.int .i64 0), (.int .i64 0), (.slice none 0 0), (.int .i64 0), (.slice none 0 0), (.int .i64 0)]) 80 rfl Try.underlying61 info122 rfl (by decide) (by omega) u6 x6_3 (⟨t328, t329, (⟨t330, t333, t334, t337⟩ : S120)⟩ : S122) [.int .i64 t328, .int .i64 t329, .slice Ao33 t330.length co33, .int .i64 t333, .slice Ao34 t334.length co34, .int .i64 t337] (fun k_ => k_ ≠ gb311) (fun k_ => some k_ = (.slice Ao33 t330.length co33 : Value).ownBlock ∨ some k_ = (.slice Ao34 t334.length co34 : Value).ownBlock) rfl rfl ?aP (fun k_ hk_ => hk_.elim (fun h_ => ((Kd.R_mono (ok' := fun k_ => ((fun k_ => k_ ≠ gb311)) k_ ∧ some k_ ≠ (u6 : Value).ownBlock) (Kd.R_types (Kd.R_apart' (HO332.out) (Kd.S_typed HO_6.out) (by decide)) BK311.out (by decide)) (fun k_ hk => ⟨hk.2, hk.1.2⟩))).1 k_ h_.symm) (fun h_ => ((Kd.R_mono (ok' := fun k_ => ((fun k_ => k_ ≠ gb311)) k_ ∧ some k_ ≠ (u6 : Value).ownBlock) (Kd.R_types (Kd.R_apart' (HO336.out) (Kd.S_typed HO_6.out) (by decide)) BK311.out (by decide)) (fun k_ hk => ⟨hk.2, hk.1.2⟩))).1 k_ h_.symm)) ?aF ?aO ?aB ?aS ?aL ?_; (case aP => exact k122_mkM _ _ _ (⟨t328, t329, (⟨t330, t333, t334, t337⟩ : S120)⟩ : S122) (Kd.R_mono (Kd.R_tight rfl (Kd.R_mono (ok' := fun k_ => ((fun k_ => k_ ≠ gb311)) k_ ∧ some k_ ≠ (u6 : Value).ownBlock) (Kd.R_types (Kd.R_apart' (HO332.out) (Kd.S_typed HO_6.out) (by decide)) BK311.out (by decide)) (fun k_ hk => ⟨hk.2, hk.1.2⟩))) (fun _ h_ => Or.inl h_)) (Kd.R_mono (Kd.R_tight rfl (Kd.R_mono (ok' := fun k_ => ((fun k_ => k_ ≠ gb311)) k_ ∧ some k_ ≠ (u6 : Value).ownBlock) (Kd.R_types (Kd.R_apart' (HO336.out) (Kd.S_typed HO_6.out) (by decide)) BK311.out (by decide)) (fun k_ hk => ⟨hk.2, hk.1.2⟩))) (fun _ h_ => Or.inr (h_)))); (case aB => exact (Z1 GE311.out)); (case aF => exact (fun k_ hk => Kd.freshB (g := gb311) (o := .cells #[.int .i64 ((rd_T122 l0 x19_2).f0), .int .i64 x312001_3, .slice A310_2 ((rd_T122 l0 x19_2).f2.f0).length c310_2, .int .i64 ((rd_T122 l0 x19_2).f2.f1), .slice A310_4 ((rd_T122 l0 x19_2).f2.f2).length c310_4, .int .i64 ((rd_T122 l0 x19_2).f2.f3)] 122 (0, 0)) (Z2 BK311.out) k_ hk)); (case aO => exact (by (with_reducible repeat (first | apply Kd.S_alloc | apply Kd.S_drewN | apply Kd.S_drew)); exact Kd.S_mono HO_6.out (fun k_ hk => ⟨hk.1.1, fun e_ => e_.elim (fun h_ => hk.1.2 h_) (fun h_ => hk.2 h_)⟩))); (case aS => exact (below_size (Z1 GE311.out))); (case aL => have := LMc29.out; omega); intro v339 w32 ho hb hg hat; rw [← Ny338.out] at ho; have n0_ := A_ (blk_grown (g := gb311) (o := .cells #[.int .i64 ((rd_T122 l0 x19_2).f0), .int .i64 x312001_3, .slice A310_2 ((rd_T122 l0 x19_2).f2.f0).length c310_2, .int .i64 ((rd_T122 l0 x19_2).f2.f1), .slice A310_4 ((rd_T122 l0 x19_2).f2.f2).length c310_4, .int .i64 ((rd_T122 l0 x19_2).f2.f3)] 122 (0, 0)) (Z2 BK311.out) hg (Kd.S_away HO_6.out (fun _ hk => hk.1.1))); have n1_ := A_ (hb); have n2_ := A_ (ho); clear BK311; clear HB; clear HO_6; clear HO332; clear HO336; have BK311 := n0_; have HB := n1_; have HO340 := n2_; clear n0_ n1_ n2_; clear ho hb hg hat))
             go_roundg k3
             case measure => have := HJ2.out; have := HK2.out; have := HK3.out; omega
             case rel => exact ⟨(y338), (wrap64 (x19_2 + 1)), Z12, H', ⟨by have := HJ2.out; have := HK2.out; have := HK3.out; omega⟩, ⟨Z45 HO340.out⟩, ⟨Z1 GE311.out⟩⟩
            ·rw [if_neg c29] at H
             exact absurd H (by simp)
        ·rw [if_neg c12] at H
         exact absurd H (by simp)
       ·rw [if_neg c11] at H
        exact absurd H (by simp)
      ·rw [if_neg c10] at H
       have c10b0 : decide (x19_2 < (l0.length : Int)) = false := decide_eq_false c10
       clear c10
       by_cases c35 : (x6_2.length : Int) > 60
       ·rw [if_pos c35] at H
        have c35b0 : decide (60 < (x6_2.length : Int)) = true := decide_eq_true c35
        have c35b1 : decide (60 < x6_2.length) = true := decide_eq_true (by omega)
        clear c35
        simp only [Option.some.injEq, Prod.mk.injEq] at H
        obtain ⟨rfl, rfl⟩ := H
        obtain ⟨Ao36, co36, eo36⟩ := Kd.S_slice HO_6.out
        subst eo36
        go_wp2
        go_ret2
        exact ⟨_, Z4, Z43, Z0⟩
       ·rw [if_neg c35] at H
        have c35b0 : decide (60 < (x6_2.length : Int)) = false := decide_eq_false c35
        have c35b1 : decide (60 < x6_2.length) = false := decide_eq_false (by omega)
        clear c35
        simp only [Option.some.injEq, Prod.mk.injEq] at H
        obtain ⟨rfl, rfl⟩ := H
        obtain ⟨Ao37, co37, eo37⟩ := Kd.S_slice HO_6.out
        subst eo37
        go_wp2
        go_ret2
        exact ⟨_, Z4, Z9 HO_6.out, Z0⟩
def laws_eqSlot.f (a0_0 : Int) (a0_1 : Int) (a1_0 : Int) (a1_1 : Int) : Option (Bool) := if a0_0 = a1_0 then (if a0_1 = a1_1 then (some true) else (some false)) else (some false)
set_option maxHeartbeats 8000000 in
set_option maxRecDepth 100000 in
theorem laws_eqSlot.calls (a0_0 : Int) (a0_1 : Int) (a1_0 : Int) (a1_1 : Int) (r : Bool) (w : World) (h : laws_eqSlot.f a0_0 a0_1 a1_0 a1_1 = some r) :
  Calls Try.prog 68 #[.agg #[.int .i64 a0_0, .int .i64 a0_1], .agg #[.int .i64 a1_0, .int .i64 a1_1]] w fun e w' => e = .returned (.bool r) ∧ Below w.heap.size w w' := by
 have hu92 := Try.underlying92
 have HB := A_ (Below.refl w.heap.size w)
 have H : (if a0_0 = a1_0 then (if a0_1 = a1_1 then (some true) else (some false)) else (some false)) = some r := h
 clear h
 by_cases c3 : a0_0 = a1_0
 ·rw [if_pos c3] at H
  have c3b0 : (a0_0 == a1_0) = true := beq_iff_eq.mpr c3
  have c3b1 : (a0_0 != a1_0) = false := bne_eq_false_iff_eq.mpr c3
  clear c3
  by_cases c4 : a0_1 = a1_1
  ·rw [if_pos c4] at H
   have c4b0 : (a0_1 == a1_1) = true := beq_iff_eq.mpr c4
   have c4b1 : (a0_1 != a1_1) = false := bne_eq_false_iff_eq.mpr c4
   clear c4
   obtain rfl := Option.some.inj H
   go_enter Try.func68, Try.ntmps68
   go_wp2_with (first | ((with_reducible refine gate_dst (N := 2) rfl ?_); refine box_event ?hg (N := 2) ?hd (cs := #[.int .i64 a0_0, .int .i64 a0_1]) (t := 92) ?hr ?_; (case hd => rfl); (case hg => rfl); (case hr => exact Z11); intro gb341 hg w5 hbox hb; have n0_ := A_ (below_step Z0 hb); have n1_ := A_ (hbox); have n2_ := A_ ((by rw [hg]; exact (below_size Z0) : w.heap.size ≤ gb341)); have n3_ := A_ ((by rw [hg]; exact (below_size Z0) : w.heap.size ≤ gb341)); clear HB; have HB := n0_; have BK341 := n1_; have GW341 := n2_; have GE341 := n3_; clear n0_ n1_ n2_ n3_; clear hb hbox hg) | ((with_reducible refine gate_dst (N := 3) rfl ?_); refine box_event ?hg (N := 3) ?hd (cs := #[.int .i64 a1_0, .int .i64 a1_1]) (t := 92) ?hr ?_; (case hd => rfl); (case hg => rfl); (case hr => exact Z11); intro gb342 hg w6 hbox hb; have n0_ := A_ (blk_below (g := gb341) (o := .cells #[.int .i64 a0_0, .int .i64 a0_1] 92 (0, 0)) (Z2 BK341.out) hb); have n1_ := A_ (below_step (Z1 GE341.out) hb); have n2_ := A_ (hbox); have n3_ := A_ ((by rw [hg]; exact (below_size (Z1 GE341.out)) : w.heap.size ≤ gb342)); have n4_ := A_ ((by rw [hg]; exact (below_size (Z1 GE341.out)) : w.heap.size ≤ gb342)); have n5_ := A_ ((by rw [hg]; exact Nat.ne_of_lt (blk_lt (g := gb341) (o := .cells #[.int .i64 a0_0, .int .i64 a0_1] 92 (0, 0)) (Z2 BK341.out)) : gb341 ≠ gb342)); have n6_ := A_ ((by rw [hg]; exact Nat.ne_of_gt (blk_lt (g := gb341) (o := .cells #[.int .i64 a0_0, .int .i64 a0_1] 92 (0, 0)) (Z2 BK341.out)) : gb342 ≠ gb341)); clear BK341; clear HB; have BK341 := n0_; have HB := n1_; have BK342 := n2_; have GW342 := n3_; have GE342 := n4_; have NB341_342 := n5_; have NB342_341 := n6_; clear n0_ n1_ n2_ n3_ n4_ n5_ n6_; clear hb hbox hg; have hnb7 := NB341_342.out; have hnc7 := NB342_341.out; have hcz8_0 : w6.cell? ⟨gb341, 0, none⟩ = some (.int .i64 a0_0) := (blk_cell BK341.out 0).trans rfl; have hcz8_1 : w6.cell? ⟨gb341, 1, none⟩ = some (.int .i64 a0_1) := (blk_cell BK341.out 1).trans rfl; have hfz8_0 := blk_frozen BK341.out 0; have hfz8_1 := blk_frozen BK341.out 1; have hcz9_0 : w6.cell? ⟨gb342, 0, none⟩ = some (.int .i64 a1_0) := (blk_cell BK342.out 0).trans rfl; have hcz9_1 : w6.cell? ⟨gb342, 1, none⟩ = some (.int .i64 a1_1) := (blk_cell BK342.out 1).trans rfl; have hfz9_0 := blk_frozen BK342.out 0; have hfz9_1 := blk_frozen BK342.out 1))
   go_ret
   exact ⟨Z4, Z5 GE341.out GE342.out⟩
  ·rw [if_neg c4] at H
   have c4b0 : (a0_1 == a1_1) = false := beq_eq_false_iff_ne.mpr c4
   have c4b1 : (a0_1 != a1_1) = true := bne_iff_ne.mpr c4
   obtain rfl := Option.some.inj H
   go_enter Try.func68, Try.ntmps68
   go_wp2_with (first | ((with_reducible refine gate_dst (N := 2) rfl ?_); refine box_event ?hg (N := 2) ?hd (cs := #[.int .i64 a0_0, .int .i64 a0_1]) (t := 92) ?hr ?_; (case hd => rfl); (case hg => rfl); (case hr => exact Z11); intro gb341 hg w10 hbox hb; have n0_ := A_ (below_step Z0 hb); have n1_ := A_ (hbox); have n2_ := A_ ((by rw [hg]; exact (below_size Z0) : w.heap.size ≤ gb341)); have n3_ := A_ ((by rw [hg]; exact (below_size Z0) : w.heap.size ≤ gb341)); clear HB; have HB := n0_; have BK341 := n1_; have GW341 := n2_; have GE341 := n3_; clear n0_ n1_ n2_ n3_; clear hb hbox hg) | ((with_reducible refine gate_dst (N := 3) rfl ?_); refine box_event ?hg (N := 3) ?hd (cs := #[.int .i64 a1_0, .int .i64 a1_1]) (t := 92) ?hr ?_; (case hd => rfl); (case hg => rfl); (case hr => exact Z11); intro gb342 hg w11 hbox hb; have n0_ := A_ (blk_below (g := gb341) (o := .cells #[.int .i64 a0_0, .int .i64 a0_1] 92 (0, 0)) (Z2 BK341.out) hb); have n1_ := A_ (below_step (Z1 GE341.out) hb); have n2_ := A_ (hbox); have n3_ := A_ ((by rw [hg]; exact (below_size (Z1 GE341.out)) : w.heap.size ≤ gb342)); have n4_ := A_ ((by rw [hg]; exact (below_size (Z1 GE341.out)) : w.heap.size ≤ gb342)); have n5_ := A_ ((by rw [hg]; exact Nat.ne_of_lt (blk_lt (g := gb341) (o := .cells #[.int .i64 a0_0, .int .i64 a0_1] 92 (0, 0)) (Z2 BK341.out)) : gb341 ≠ gb342)); have n6_ := A_ ((by rw [hg]; exact Nat.ne_of_gt (blk_lt (g := gb341) (o := .cells #[.int .i64 a0_0, .int .i64 a0_1] 92 (0, 0)) (Z2 BK341.out)) : gb342 ≠ gb341)); clear BK341; clear HB; have BK341 := n0_; have HB := n1_; have BK342 := n2_; have GW342 := n3_; have GE342 := n4_; have NB341_342 := n5_; have NB342_341 := n6_; clear n0_ n1_ n2_ n3_ n4_ n5_ n6_; clear hb hbox hg; have hnb12 := NB341_342.out; have hnc12 := NB342_341.out; have hcz13_0 : w11.cell? ⟨gb341, 0, none⟩ = some (.int .i64 a0_0) := (blk_cell BK341.out 0).trans rfl; have hcz13_1 : w11.cell? ⟨gb341, 1, none⟩ = some (.int .i64 a0_1) := (blk_cell BK341.out 1).trans rfl; have hfz13_0 := blk_frozen BK341.out 0; have hfz13_1 := blk_frozen BK341.out 1; have hcz14_0 : w11.cell? ⟨gb342, 0, none⟩ = some (.int .i64 a1_0) := (blk_cell BK342.out 0).trans rfl; have hcz14_1 : w11.cell? ⟨gb342, 1, none⟩ = some (.int .i64 a1_1) := (blk_cell BK342.out 1).trans rfl; have hfz14_0 := blk_frozen BK342.out 0; have hfz14_1 := blk_frozen BK342.out 1))
   go_ret
   exact ⟨Z4, Z5 GE341.out GE342.out⟩
 ·rw [if_neg c3] at H
  have c3b0 : (a0_0 == a1_0) = false := beq_eq_false_iff_ne.mpr c3
  have c3b1 : (a0_0 != a1_0) = true := bne_iff_ne.mpr c3
  obtain rfl := Option.some.inj H
  go_enter Try.func68, Try.ntmps68
  go_wp2_with (first | ((with_reducible refine gate_dst (N := 2) rfl ?_); refine box_event ?hg (N := 2) ?hd (cs := #[.int .i64 a0_0, .int .i64 a0_1]) (t := 92) ?hr ?_; (case hd => rfl); (case hg => rfl); (case hr => exact Z11); intro gb341 hg w15 hbox hb; have n0_ := A_ (below_step Z0 hb); have n1_ := A_ (hbox); have n2_ := A_ ((by rw [hg]; exact (below_size Z0) : w.heap.size ≤ gb341)); have n3_ := A_ ((by rw [hg]; exact (below_size Z0) : w.heap.size ≤ gb341)); clear HB; have HB := n0_; have BK341 := n1_; have GW341 := n2_; have GE341 := n3_; clear n0_ n1_ n2_ n3_; clear hb hbox hg) | ((with_reducible refine gate_dst (N := 3) rfl ?_); refine box_event ?hg (N := 3) ?hd (cs := #[.int .i64 a1_0, .int .i64 a1_1]) (t := 92) ?hr ?_; (case hd => rfl); (case hg => rfl); (case hr => exact Z11); intro gb342 hg w16 hbox hb; have n0_ := A_ (blk_below (g := gb341) (o := .cells #[.int .i64 a0_0, .int .i64 a0_1] 92 (0, 0)) (Z2 BK341.out) hb); have n1_ := A_ (below_step (Z1 GE341.out) hb); have n2_ := A_ (hbox); have n3_ := A_ ((by rw [hg]; exact (below_size (Z1 GE341.out)) : w.heap.size ≤ gb342)); have n4_ := A_ ((by rw [hg]; exact (below_size (Z1 GE341.out)) : w.heap.size ≤ gb342)); have n5_ := A_ ((by rw [hg]; exact Nat.ne_of_lt (blk_lt (g := gb341) (o := .cells #[.int .i64 a0_0, .int .i64 a0_1] 92 (0, 0)) (Z2 BK341.out)) : gb341 ≠ gb342)); have n6_ := A_ ((by rw [hg]; exact Nat.ne_of_gt (blk_lt (g := gb341) (o := .cells #[.int .i64 a0_0, .int .i64 a0_1] 92 (0, 0)) (Z2 BK341.out)) : gb342 ≠ gb341)); clear BK341; clear HB; have BK341 := n0_; have HB := n1_; have BK342 := n2_; have GW342 := n3_; have GE342 := n4_; have NB341_342 := n5_; have NB342_341 := n6_; clear n0_ n1_ n2_ n3_ n4_ n5_ n6_; clear hb hbox hg; have hnb17 := NB341_342.out; have hnc17 := NB342_341.out; have hcz18_0 : w16.cell? ⟨gb341, 0, none⟩ = some (.int .i64 a0_0) := (blk_cell BK341.out 0).trans rfl; have hcz18_1 : w16.cell? ⟨gb341, 1, none⟩ = some (.int .i64 a0_1) := (blk_cell BK341.out 1).trans rfl; have hfz18_0 := blk_frozen BK341.out 0; have hfz18_1 := blk_frozen BK341.out 1; have hcz19_0 : w16.cell? ⟨gb342, 0, none⟩ = some (.int .i64 a1_0) := (blk_cell BK342.out 0).trans rfl; have hcz19_1 : w16.cell? ⟨gb342, 1, none⟩ = some (.int .i64 a1_1) := (blk_cell BK342.out 1).trans rfl; have hfz19_0 := blk_frozen BK342.out 0; have hfz19_1 := blk_frozen BK342.out 1))
  go_ret
  exact ⟨Z4, Z5 GE341.out GE342.out⟩
def laws_eqSlotS.l0 : Nat → List (S92) → List (S92) → Int → Option (Bool)
 | 0, _, _, _ => none
 | k + 1, x0, x1, x5 => if x5 < (x0.length : Int) then (if 0 ≤ x5 then (if x5 < (x1.length : Int) then ((laws_eqSlot.f ((rd_T92 x0 x5).f0) ((rd_T92 x0 x5).f1) ((rd_T92 x1 x5).f0) ((rd_T92 x1 x5).f1)).bind fun t345 => (if t345 = true then (laws_eqSlotS.l0 k x0 x1 (wrap64 (x5 + 1))) else (some false))) else (none)) else (none)) else (some true)
def laws_eqSlotS.f (k : Nat) (l0 : List (S92)) (l1 : List (S92)) : Option (Bool) := if (l0.length : Int) = (l1.length : Int) then (laws_eqSlotS.l0 k l0 l1 0) else (some false)
theorem laws_eqSlotS.mono_l : ∀ k, (∀ y0 y1 y2, LeO (laws_eqSlotS.l0 k y0 y1 y2) (laws_eqSlotS.l0 (k + 1) y0 y1 y2))
 | 0 => fun _ _ _ r h => by simp [laws_eqSlotS.l0] at h
 | k + 1 => by
  have ih0 := laws_eqSlotS.mono_l k
  ·intro y0 y1 y2
   unfold laws_eqSlotS.l0
   repeat' first
   | (with_reducible exact ih0 _ _ _)
   | (with_reducible exact LeO.refl _)
   | (with_reducible exact LeO.none _)
   | (with_reducible refine LeO.ite ?_ ?_)
   | (with_reducible refine LeO.bind ?_ (fun _ => ?_))
   | exact ih0 _ _ _
   | exact LeO.none _
   | refine LeO.ite ?_ ?_
   | refine LeO.bind ?_ (fun _ => ?_)
theorem laws_eqSlotS.mono : ∀ a0 a1 k, LeO (laws_eqSlotS.f k a0 a1) (laws_eqSlotS.f (k + 1) a0 a1) := by
 intro a0 a1 k
 have ih0 := laws_eqSlotS.mono_l k
 unfold laws_eqSlotS.f
 repeat' first
   | (with_reducible exact ih0 _ _ _)
   | (with_reducible exact LeO.refl _)
   | (with_reducible exact LeO.none _)
   | (with_reducible refine LeO.ite ?_ ?_)
   | (with_reducible refine LeO.bind ?_ (fun _ => ?_))
   | exact ih0 _ _ _
   | exact LeO.none _
   | refine LeO.ite ?_ ?_
   | refine LeO.bind ?_ (fun _ => ?_)
def laws_eqSlotS.T6 : Bool × List (List Nat × List Nat) := (true, [([], []), ([], []), ([0, 1], [0, 1]), ([2], [2]), ([], []), ([], []), ([4, 5], [4, 5]), ([6], [6]), ([3, 7], [3, 7]), ([8], [8])])
def laws_eqSlotS.B6 : List Nat := [0, 0, 3, 7, 0, 0, 48, 112, 255, 511]
theorem laws_eqSlotS.tab6 : rtab .any (opsOf Try.f26 6) = laws_eqSlotS.T6 := by kernel_rfl
theorem laws_eqSlotS.bits6 : waitsOk laws_eqSlotS.T6.2 laws_eqSlotS.B6 = true := by kernel_rfl
set_option maxHeartbeats 8000000 in
set_option maxRecDepth 100000 in
theorem laws_eqSlotS.calls (k : Nat) (A0 : Option Addr) (c0 : Nat) (l0 : List (S92)) (A1 : Option Addr) (c1 : Nat) (l1 : List (S92)) (r : Bool) (w : World) (hr0 : Kd.C k92 w A0 l0.length l0) (hc0 : l0.length ≤ c0) (hr1 : Kd.C k92 w A1 l1.length l1) (hc1 : l1.length ≤ c1) (h : laws_eqSlotS.f k l0 l1 = some r) :
  Calls Try.prog 26 #[.slice A0 l0.length c0, .slice A1 l1.length c1] w fun e w' => e = .returned (.bool r) ∧ Below w.heap.size w w' := by
 have hu92 := Try.underlying92
 have HR0 := A_ hr0
 have HC0 := A_ hc0
 clear hr0 hc0
 have HR1 := A_ hr1
 have HC1 := A_ hc1
 clear hr1 hc1
 have HB := A_ (Below.refl w.heap.size w)
 have H : (if (l0.length : Int) = (l1.length : Int) then (laws_eqSlotS.l0 k l0 l1 0) else (some false)) = some r := h
 clear h
 by_cases c3 : (l0.length : Int) = (l1.length : Int)
 ·rw [if_pos c3] at H
  have c3b0 : ((l0.length : Int) == (l1.length : Int)) = true := beq_iff_eq.mpr c3
  have c3b1 : ((l0.length : Int) != (l1.length : Int)) = false := bne_eq_false_iff_eq.mpr c3
  have c3b2 : (l0.length == l1.length) = true := by first | simpa using c3 | (simp at c3 ⊢; omega)
  clear c3
  have H' := A_ H
  clear H
  go_enter Try.func26, Try.ntmps26
  go_wp2
  go_loopg [5] k (fun kq v5 w' => ∃ (x5_1 : Int), v5 = .int .i64 x5_1 ∧ Aside0 (laws_eqSlotS.l0 kq l0 l1 x5_1 = some r) ∧ Aside0 (kq ≤ k) ∧ Aside0 (Below w.heap.size w w'))
  case atStart => exact ⟨(0), Z12, H', ⟨Nat.le_refl _⟩, ⟨Z0⟩⟩
  case round =>
   clear H'
   try clear c1
   try clear c2
   try clear p2
   try clear c3
   try clear c3b0
   try clear c3b1
   try clear c3b2
   obtain ⟨x5_1, rfl, HA, HK1, HB⟩ := hrel
   cases gk with
   | zero => exact absurd HA.out (by simp [laws_eqSlotS.l0])
   | succ k1 =>
    have H := HA.out
    clear HA
    simp only [laws_eqSlotS.l0] at H
    by_cases c4 : x5_1 < (l0.length : Int)
    ·rw [if_pos c4] at H
     have c4b0 : decide (x5_1 < (l0.length : Int)) = true := decide_eq_true c4
     clear c4
     by_cases c5 : 0 ≤ x5_1
     ·rw [if_pos c5] at H
      have c5b0 : decide (0 ≤ x5_1) = true := decide_eq_true c5
      clear c5
      by_cases c6 : x5_1 < (l1.length : Int)
      ·rw [if_pos c6] at H
       have c6b0 : decide (x5_1 < (l1.length : Int)) = true := decide_eq_true c6
       clear c6
       replace H := Option.bind_eq_some_iff.mp H
       obtain ⟨t345, A70, H⟩ := H
       replace H : (if t345 = true then (laws_eqSlotS.l0 k1 l0 l1 (wrap64 (x5_1 + 1))) else (some false)) = some r := H
       have A7 := A_ A70
       clear A70
       by_cases c8 : t345 = true
       ·subst c8
        have H1 : (laws_eqSlotS.l0 k1 l0 l1 (wrap64 (x5_1 + 1))) = some r := by rw [if_pos rfl] at H; exact H
        clear H
        have H := H1
        clear H1
        have H' := A_ H
        clear H
        try go_wp2
        have n0_ := A_ (below_drew1 HB.out)
        clear HB
        have HB := n0_
        clear n0_
        have p343 : 0 ≤ (x5_1 : Int) := of_decide_eq_true Z7
        have q343 : x5_1 < (l0.length : Int) := of_decide_eq_true Z7
        obtain ⟨ad343, e343, hx343_0, hx343_1⟩ := at_T92 HR0.out x5_1 p343 q343
        have hw343_1 := hx343_1
        have hw343_0 := hx343_0
        cases e343
        replace hx343_0 := ZC HB.out hx343_0
        replace hx343_1 := ZC HB.out hx343_1
        replace p343 := eq_true p343
        replace q343 := eq_true q343
        have p344 : 0 ≤ (x5_1 : Int) := of_decide_eq_true Z7
        have q344 : x5_1 < (l1.length : Int) := of_decide_eq_true Z7
        obtain ⟨ad344, e344, hx344_0, hx344_1⟩ := at_T92 HR1.out x5_1 p344 q344
        have hw344_1 := hx344_1
        have hw344_0 := hx344_0
        cases e344
        replace hx344_0 := ZC HB.out hx344_0
        replace hx344_1 := ZC HB.out hx344_1
        replace p344 := eq_true p344
        replace q344 := eq_true q344
        refine start_ (n := 10) (S := fun w' => w'.cell? (ad343.add ((x5_1).toNat * 2)) = some (.int .i64 ((rd_T92 l0 x5_1).f0)) ∧ w'.cell? ⟨(ad343.add ((x5_1).toNat * 2)).block, (ad343.add ((x5_1).toNat * 2)).off + 1, none⟩ = some (.int .i64 ((rd_T92 l0 x5_1).f1)) ∧ w'.cell? (ad344.add ((x5_1).toNat * 2)) = some (.int .i64 ((rd_T92 l1 x5_1).f0)) ∧ w'.cell? ⟨(ad344.add ((x5_1).toNat * 2)).block, (ad344.add ((x5_1).toNat * 2)).off + 1, none⟩ = some (.int .i64 ((rd_T92 l1 x5_1).f1))) (ds := []) #[F,F,F,F,F,F,F,F,F,F] (by kernel_rfl) rfl rfl ⟨(ZC HB.out hw343_0 :), (ZC HB.out hw343_1 :), (ZC HB.out hw344_0 :), (ZC HB.out hw344_1 :)⟩ (fun hHeld => ?_); refine with_tabW laws_eqSlotS.tab6 laws_eqSlotS.bits6 (fun HT_ HW_ => ?_)
        generalize wr.drew = w9 at HB hx343_0 hx343_1 hx344_0 hx344_1 hHeld ⊢
        refine pure_ (i := 0) (N := some 17) (v := ?_) (a' := ?_) #[T,F,F,F,F,F,F,F,F,F] rfl rfl ZA ZF (Or.inl ⟨by rfl, ?_⟩) ?_ ?_
        rotate_left
        ·exact Z36
        rotate_left
        ·exact Z8
        refine pure_ (i := 1) (N := some 18) (v := ?_) (a' := ?_) #[T,T,F,F,F,F,F,F,F,F] rfl rfl ZA ZF (Or.inl ⟨by rfl, ?_⟩) ?_ ?_
        rotate_left
        ·exact Z36
        rotate_left
        ·exact Z8
        refine pure_ (i := 2) (N := some 19) (v := ?_) (a' := ?_) #[T,T,T,F,F,F,F,F,F,F] rfl rfl ZA ZF (Or.inl ⟨by rfl, ?_⟩) ?_ ?_
        rotate_left
        ·exact Z36
        rotate_left
        ·exact Z8
        refine pure_ (i := 4) (N := some 21) (v := ?_) (a' := ?_) #[T,T,T,F,T,F,F,F,F,F] rfl rfl ZA ZF (Or.inl ⟨by rfl, ?_⟩) ?_ ?_
        rotate_left
        ·exact Z36
        rotate_left
        ·exact Z8
        refine pure_ (i := 5) (N := some 22) (v := ?_) (a' := ?_) #[T,T,T,F,T,T,F,F,F,F] rfl rfl ZA ZF (Or.inl ⟨by rfl, ?_⟩) ?_ ?_
        rotate_left
        ·exact Z36
        rotate_left
        ·exact Z8
        refine pure_ (i := 6) (N := some 23) (v := ?_) (a' := ?_) #[T,T,T,F,T,T,T,F,F,F] rfl rfl ZA ZF (Or.inl ⟨by rfl, ?_⟩) ?_ ?_
        rotate_left
        ·exact Z36
        rotate_left
        ·exact Z8
        refine take_ (i := 3) (N := some 20) (v := ?_) (a' := ?_) #[T,T,T,T,T,T,T,F,F,F] rfl rfl (take_ofW HT_.out HW_.out (by kernel_rfl)) ZF (Or.inl ⟨by rfl, ?_⟩) hHeld ?_ ?_
        rotate_left
        ·rintro w' ⟨s0, s1, s2, s3⟩
         go_simp
         with_reducible rfl
        rotate_left
        ·exact Z8
        refine take_ (i := 7) (N := some 24) (v := ?_) (a' := ?_) #[T,T,T,T,T,T,T,T,F,F] rfl rfl (take_ofW HT_.out HW_.out (by kernel_rfl)) ZF (Or.inl ⟨by rfl, ?_⟩) hHeld ?_ ?_
        rotate_left
        ·rintro w' ⟨s0, s1, s2, s3⟩
         go_simp
         with_reducible rfl
        rotate_left
        ·exact Z8
        refine one_ (i := 8) (N := some 25) #[T,T,T,T,T,T,T,T,T,F] rfl rfl (one_of HT_.out (by kernel_rfl)) (by decide) (fun K hK => ?_)
        refine goes_ Try.func68 (by kernel_rfl) rfl #[.agg #[.int .i64 ((rd_T92 l0 x5_1).f0), .int .i64 ((rd_T92 l0 x5_1).f1)], .agg #[.int .i64 ((rd_T92 l1 x5_1).f0), .int .i64 ((rd_T92 l1 x5_1).f1)]] (by rfl) rfl rfl Z3 ?_
        with_reducible refine (laws_eqSlot.calls ((rd_T92 l0 x5_1).f0) ((rd_T92 l0 x5_1).f1) ((rd_T92 l1 x5_1).f0) ((rd_T92 l1 x5_1).f1) true _ A7.out).mono ?_
        rintro e w10 ⟨rfl, hb⟩
        refine ⟨_, rfl, ?_⟩
        have n0_ := A_ (below_step Z0 hb)
        clear HB
        have HB := n0_
        clear n0_
        (try clear hb)
        (try clear hb2)
        (try clear hk)
        (try clear hi)
        refine hK.out _ _ ⟨(ZC HB.out hw343_0 :), (ZC HB.out hw343_1 :), (ZC HB.out hw344_0 :), (ZC HB.out hw344_1 :)⟩ (fun hHeld => ?_)
        clear hK K
        refine norm_ (a' := ?_) ?_ ?_
        rotate_left
        ·exact Z41
        refine pure_ (i := 9) (N := some 26) (v := ?_) (a' := ?_) #[T,T,T,T,T,T,T,T,T,T] rfl rfl ZA ZF (Or.inl ⟨by rfl, ?_⟩) ?_ ?_
        rotate_left
        ·exact Z36
        rotate_left
        ·exact Z8
        refine done_ (done_of HT_.out (by kernel_rfl)) ?_
        try go_wp2
        go_roundg k1
        case measure => have := HK1.out; omega
        case rel => exact ⟨(wrap64 (x5_1 + 1)), Z12, H', ⟨by have := HK1.out; omega⟩, ⟨Z0⟩⟩
       ·replace c8 := Bool.eq_false_iff.mpr c8
        subst c8
        have H1 : (some false) = some r := by rw [if_neg (show ¬ (false = true) by decide)] at H; exact H
        clear H
        have H := H1
        clear H1
        obtain rfl := Option.some.inj H
        try go_wp2
        have n0_ := A_ (below_drew1 HB.out)
        clear HB
        have HB := n0_
        clear n0_
        have p343 : 0 ≤ (x5_1 : Int) := of_decide_eq_true Z7
        have q343 : x5_1 < (l0.length : Int) := of_decide_eq_true Z7
        obtain ⟨ad343, e343, hx343_0, hx343_1⟩ := at_T92 HR0.out x5_1 p343 q343
        have hw343_1 := hx343_1
        have hw343_0 := hx343_0
        cases e343
        replace hx343_0 := ZC HB.out hx343_0
        replace hx343_1 := ZC HB.out hx343_1
        replace p343 := eq_true p343
        replace q343 := eq_true q343
        have p344 : 0 ≤ (x5_1 : Int) := of_decide_eq_true Z7
        have q344 : x5_1 < (l1.length : Int) := of_decide_eq_true Z7
        obtain ⟨ad344, e344, hx344_0, hx344_1⟩ := at_T92 HR1.out x5_1 p344 q344
        have hw344_1 := hx344_1
        have hw344_0 := hx344_0
        cases e344
        replace hx344_0 := ZC HB.out hx344_0
        replace hx344_1 := ZC HB.out hx344_1
        replace p344 := eq_true p344
        replace q344 := eq_true q344
        refine start_ (n := 10) (S := fun w' => w'.cell? (ad343.add ((x5_1).toNat * 2)) = some (.int .i64 ((rd_T92 l0 x5_1).f0)) ∧ w'.cell? ⟨(ad343.add ((x5_1).toNat * 2)).block, (ad343.add ((x5_1).toNat * 2)).off + 1, none⟩ = some (.int .i64 ((rd_T92 l0 x5_1).f1)) ∧ w'.cell? (ad344.add ((x5_1).toNat * 2)) = some (.int .i64 ((rd_T92 l1 x5_1).f0)) ∧ w'.cell? ⟨(ad344.add ((x5_1).toNat * 2)).block, (ad344.add ((x5_1).toNat * 2)).off + 1, none⟩ = some (.int .i64 ((rd_T92 l1 x5_1).f1))) (ds := []) #[F,F,F,F,F,F,F,F,F,F] (by kernel_rfl) rfl rfl ⟨(ZC HB.out hw343_0 :), (ZC HB.out hw343_1 :), (ZC HB.out hw344_0 :), (ZC HB.out hw344_1 :)⟩ (fun hHeld => ?_); refine with_tabW laws_eqSlotS.tab6 laws_eqSlotS.bits6 (fun HT_ HW_ => ?_)
        generalize wr.drew = w11 at HB hx343_0 hx343_1 hx344_0 hx344_1 hHeld ⊢
        refine pure_ (i := 0) (N := some 17) (v := ?_) (a' := ?_) #[T,F,F,F,F,F,F,F,F,F] rfl rfl ZA ZF (Or.inl ⟨by rfl, ?_⟩) ?_ ?_
        rotate_left
        ·exact Z36
        rotate_left
        ·exact Z8
        refine pure_ (i := 1) (N := some 18) (v := ?_) (a' := ?_) #[T,T,F,F,F,F,F,F,F,F] rfl rfl ZA ZF (Or.inl ⟨by rfl, ?_⟩) ?_ ?_
        rotate_left
        ·exact Z36
        rotate_left
        ·exact Z8
        refine pure_ (i := 2) (N := some 19) (v := ?_) (a' := ?_) #[T,T,T,F,F,F,F,F,F,F] rfl rfl ZA ZF (Or.inl ⟨by rfl, ?_⟩) ?_ ?_
        rotate_left
        ·exact Z36
        rotate_left
        ·exact Z8
        refine pure_ (i := 4) (N := some 21) (v := ?_) (a' := ?_) #[T,T,T,F,T,F,F,F,F,F] rfl rfl ZA ZF (Or.inl ⟨by rfl, ?_⟩) ?_ ?_
        rotate_left
        ·exact Z36
        rotate_left
        ·exact Z8
        refine pure_ (i := 5) (N := some 22) (v := ?_) (a' := ?_) #[T,T,T,F,T,T,F,F,F,F] rfl rfl ZA ZF (Or.inl ⟨by rfl, ?_⟩) ?_ ?_
        rotate_left
        ·exact Z36
        rotate_left
        ·exact Z8
        refine pure_ (i := 6) (N := some 23) (v := ?_) (a' := ?_) #[T,T,T,F,T,T,T,F,F,F] rfl rfl ZA ZF (Or.inl ⟨by rfl, ?_⟩) ?_ ?_
        rotate_left
        ·exact Z36
        rotate_left
        ·exact Z8
        refine take_ (i := 3) (N := some 20) (v := ?_) (a' := ?_) #[T,T,T,T,T,T,T,F,F,F] rfl rfl (take_ofW HT_.out HW_.out (by kernel_rfl)) ZF (Or.inl ⟨by rfl, ?_⟩) hHeld ?_ ?_
        rotate_left
        ·rintro w' ⟨s0, s1, s2, s3⟩
         go_simp
         with_reducible rfl
        rotate_left
        ·exact Z8
        refine take_ (i := 7) (N := some 24) (v := ?_) (a' := ?_) #[T,T,T,T,T,T,T,T,F,F] rfl rfl (take_ofW HT_.out HW_.out (by kernel_rfl)) ZF (Or.inl ⟨by rfl, ?_⟩) hHeld ?_ ?_
        rotate_left
        ·rintro w' ⟨s0, s1, s2, s3⟩
         go_simp
         with_reducible rfl
        rotate_left
        ·exact Z8
        refine one_ (i := 8) (N := some 25) #[T,T,T,T,T,T,T,T,T,F] rfl rfl (one_of HT_.out (by kernel_rfl)) (by decide) (fun K hK => ?_)
        refine goes_ Try.func68 (by kernel_rfl) rfl #[.agg #[.int .i64 ((rd_T92 l0 x5_1).f0), .int .i64 ((rd_T92 l0 x5_1).f1)], .agg #[.int .i64 ((rd_T92 l1 x5_1).f0), .int .i64 ((rd_T92 l1 x5_1).f1)]] (by rfl) rfl rfl Z3 ?_
        with_reducible refine (laws_eqSlot.calls ((rd_T92 l0 x5_1).f0) ((rd_T92 l0 x5_1).f1) ((rd_T92 l1 x5_1).f0) ((rd_T92 l1 x5_1).f1) false _ A7.out).mono ?_
        rintro e w12 ⟨rfl, hb⟩
        refine ⟨_, rfl, ?_⟩
        have n0_ := A_ (below_step Z0 hb)
        clear HB
        have HB := n0_
        clear n0_
        (try clear hb)
        (try clear hb2)
        (try clear hk)
        (try clear hi)
        refine hK.out _ _ ⟨(ZC HB.out hw343_0 :), (ZC HB.out hw343_1 :), (ZC HB.out hw344_0 :), (ZC HB.out hw344_1 :)⟩ (fun hHeld => ?_)
        clear hK K
        refine norm_ (a' := ?_) ?_ ?_
        rotate_left
        ·exact Z41
        refine pure_ (i := 9) (N := some 26) (v := ?_) (a' := ?_) #[T,T,T,T,T,T,T,T,T,T] rfl rfl ZA ZF (Or.inl ⟨by rfl, ?_⟩) ?_ ?_
        rotate_left
        ·exact Z36
        rotate_left
        ·exact Z8
        refine done_ (done_of HT_.out (by kernel_rfl)) ?_
        try go_wp2
        go_ret
        exact ⟨Z4, Z0⟩
      ·rw [if_neg c6] at H
       exact absurd H (by simp)
     ·rw [if_neg c5] at H
      exact absurd H (by simp)
    ·rw [if_neg c4] at H
     have c4b0 : decide (x5_1 < (l0.length : Int)) = false := decide_eq_false c4
     clear c4
     obtain rfl := Option.some.inj H
     go_wp2
     go_ret
     exact ⟨Z4, Z0⟩
 ·rw [if_neg c3] at H
  have c3b0 : ((l0.length : Int) == (l1.length : Int)) = false := beq_eq_false_iff_ne.mpr c3
  have c3b1 : ((l0.length : Int) != (l1.length : Int)) = true := bne_iff_ne.mpr c3
  have c3b2 : (l0.length == l1.length) = false := by first | simpa using c3 | (simp at c3 ⊢; omega)
  obtain rfl := Option.some.inj H
  go_enter Try.func26, Try.ntmps26
  go_wp2
  go_ret
  exact ⟨Z4, Z0⟩
def laws_eqValue.f (a0_0 : Int) (a0_1 : Int) (a0_2 : ByteArray) (a1_0 : Int) (a1_1 : Int) (a1_2 : ByteArray) : Option (Bool) := if a0_0 = a1_0 then (if a0_1 = a1_1 then (if a0_2.toList = a1_2.toList then (some true) else (some false)) else (some false)) else (some false)
set_option maxHeartbeats 8000000 in
set_option maxRecDepth 100000 in
theorem laws_eqValue.calls (a0_0 : Int) (a0_1 : Int) (a0_2 : ByteArray) (a1_0 : Int) (a1_1 : Int) (a1_2 : ByteArray) (r : Bool) (w : World) (h : laws_eqValue.f a0_0 a0_1 a0_2 a1_0 a1_1 a1_2 = some r) :
  Calls Try.prog 66 #[.agg #[.int .i64 a0_0, .int .i64 a0_1, .string a0_2], .agg #[.int .i64 a1_0, .int .i64 a1_1, .string a1_2]] w fun e w' => e = .returned (.bool r) ∧ Below w.heap.size w w' := by
 have hu99 := Try.underlying99
 have HB := A_ (Below.refl w.heap.size w)
 have H : (if a0_0 = a1_0 then (if a0_1 = a1_1 then (if a0_2.toList = a1_2.toList then (some true) else (some false)) else (some false)) else (some false)) = some r := h
 clear h
 by_cases c3 : a0_0 = a1_0
 ·rw [if_pos c3] at H
  have c3b0 : (a0_0 == a1_0) = true := beq_iff_eq.mpr c3
  have c3b1 : (a0_0 != a1_0) = false := bne_eq_false_iff_eq.mpr c3
  clear c3
  by_cases c4 : a0_1 = a1_1
  ·rw [if_pos c4] at H
   have c4b0 : (a0_1 == a1_1) = true := beq_iff_eq.mpr c4
   have c4b1 : (a0_1 != a1_1) = false := bne_eq_false_iff_eq.mpr c4
   clear c4
   by_cases c5 : a0_2.toList = a1_2.toList
   ·rw [if_pos c5] at H
    have c5b0 : (a0_2.toList == a1_2.toList) = true := beq_iff_eq.mpr c5
    have c5b1 : (a0_2.toList != a1_2.toList) = false := bne_eq_false_iff_eq.mpr c5
    clear c5
    obtain rfl := Option.some.inj H
    go_enter Try.func66, Try.ntmps66
    go_wp2_with (first | ((with_reducible refine gate_dst (N := 2) rfl ?_); refine box_event ?hg (N := 2) ?hd (cs := #[.int .i64 a0_0, .int .i64 a0_1, .string a0_2]) (t := 99) ?hr ?_; (case hd => rfl); (case hg => rfl); (case hr => exact Z11); intro gb346 hg w6 hbox hb; have n0_ := A_ (below_step Z0 hb); have n1_ := A_ (hbox); have n2_ := A_ ((by rw [hg]; exact (below_size Z0) : w.heap.size ≤ gb346)); have n3_ := A_ ((by rw [hg]; exact (below_size Z0) : w.heap.size ≤ gb346)); clear HB; have HB := n0_; have BK346 := n1_; have GW346 := n2_; have GE346 := n3_; clear n0_ n1_ n2_ n3_; clear hb hbox hg) | ((with_reducible refine gate_dst (N := 3) rfl ?_); refine box_event ?hg (N := 3) ?hd (cs := #[.int .i64 a1_0, .int .i64 a1_1, .string a1_2]) (t := 99) ?hr ?_; (case hd => rfl); (case hg => rfl); (case hr => exact Z11); intro gb347 hg w7 hbox hb; have n0_ := A_ (blk_below (g := gb346) (o := .cells #[.int .i64 a0_0, .int .i64 a0_1, .string a0_2] 99 (0, 0)) (Z2 BK346.out) hb); have n1_ := A_ (below_step (Z1 GE346.out) hb); have n2_ := A_ (hbox); have n3_ := A_ ((by rw [hg]; exact (below_size (Z1 GE346.out)) : w.heap.size ≤ gb347)); have n4_ := A_ ((by rw [hg]; exact (below_size (Z1 GE346.out)) : w.heap.size ≤ gb347)); have n5_ := A_ ((by rw [hg]; exact Nat.ne_of_lt (blk_lt (g := gb346) (o := .cells #[.int .i64 a0_0, .int .i64 a0_1, .string a0_2] 99 (0, 0)) (Z2 BK346.out)) : gb346 ≠ gb347)); have n6_ := A_ ((by rw [hg]; exact Nat.ne_of_gt (blk_lt (g := gb346) (o := .cells #[.int .i64 a0_0, .int .i64 a0_1, .string a0_2] 99 (0, 0)) (Z2 BK346.out)) : gb347 ≠ gb346)); clear BK346; clear HB; have BK346 := n0_; have HB := n1_; have BK347 := n2_; have GW347 := n3_; have GE347 := n4_; have NB346_347 := n5_; have NB347_346 := n6_; clear n0_ n1_ n2_ n3_ n4_ n5_ n6_; clear hb hbox hg; have hnb8 := NB346_347.out; have hnc8 := NB347_346.out; have hcz9_0 : w7.cell? ⟨gb346, 0, none⟩ = some (.int .i64 a0_0) := (blk_cell BK346.out 0).trans rfl; have hcz9_1 : w7.cell? ⟨gb346, 1, none⟩ = some (.int .i64 a0_1) := (blk_cell BK346.out 1).trans rfl; have hcz9_2 : w7.cell? ⟨gb346, 2, none⟩ = some (.string a0_2) := (blk_cell BK346.out 2).trans rfl; have hfz9_0 := blk_frozen BK346.out 0; have hfz9_1 := blk_frozen BK346.out 1; have hfz9_2 := blk_frozen BK346.out 2; have hcz10_0 : w7.cell? ⟨gb347, 0, none⟩ = some (.int .i64 a1_0) := (blk_cell BK347.out 0).trans rfl; have hcz10_1 : w7.cell? ⟨gb347, 1, none⟩ = some (.int .i64 a1_1) := (blk_cell BK347.out 1).trans rfl; have hcz10_2 : w7.cell? ⟨gb347, 2, none⟩ = some (.string a1_2) := (blk_cell BK347.out 2).trans rfl; have hfz10_0 := blk_frozen BK347.out 0; have hfz10_1 := blk_frozen BK347.out 1; have hfz10_2 := blk_frozen BK347.out 2))
    go_ret
    exact ⟨Z4, Z5 GE346.out GE347.out⟩
   ·rw [if_neg c5] at H
    have c5b0 : (a0_2.toList == a1_2.toList) = false := beq_eq_false_iff_ne.mpr c5
    have c5b1 : (a0_2.toList != a1_2.toList) = true := bne_iff_ne.mpr c5
    obtain rfl := Option.some.inj H
    go_enter Try.func66, Try.ntmps66
    go_wp2_with (first | ((with_reducible refine gate_dst (N := 2) rfl ?_); refine box_event ?hg (N := 2) ?hd (cs := #[.int .i64 a0_0, .int .i64 a0_1, .string a0_2]) (t := 99) ?hr ?_; (case hd => rfl); (case hg => rfl); (case hr => exact Z11); intro gb346 hg w11 hbox hb; have n0_ := A_ (below_step Z0 hb); have n1_ := A_ (hbox); have n2_ := A_ ((by rw [hg]; exact (below_size Z0) : w.heap.size ≤ gb346)); have n3_ := A_ ((by rw [hg]; exact (below_size Z0) : w.heap.size ≤ gb346)); clear HB; have HB := n0_; have BK346 := n1_; have GW346 := n2_; have GE346 := n3_; clear n0_ n1_ n2_ n3_; clear hb hbox hg) | ((with_reducible refine gate_dst (N := 3) rfl ?_); refine box_event ?hg (N := 3) ?hd (cs := #[.int .i64 a1_0, .int .i64 a1_1, .string a1_2]) (t := 99) ?hr ?_; (case hd => rfl); (case hg => rfl); (case hr => exact Z11); intro gb347 hg w12 hbox hb; have n0_ := A_ (blk_below (g := gb346) (o := .cells #[.int .i64 a0_0, .int .i64 a0_1, .string a0_2] 99 (0, 0)) (Z2 BK346.out) hb); have n1_ := A_ (below_step (Z1 GE346.out) hb); have n2_ := A_ (hbox); have n3_ := A_ ((by rw [hg]; exact (below_size (Z1 GE346.out)) : w.heap.size ≤ gb347)); have n4_ := A_ ((by rw [hg]; exact (below_size (Z1 GE346.out)) : w.heap.size ≤ gb347)); have n5_ := A_ ((by rw [hg]; exact Nat.ne_of_lt (blk_lt (g := gb346) (o := .cells #[.int .i64 a0_0, .int .i64 a0_1, .string a0_2] 99 (0, 0)) (Z2 BK346.out)) : gb346 ≠ gb347)); have n6_ := A_ ((by rw [hg]; exact Nat.ne_of_gt (blk_lt (g := gb346) (o := .cells #[.int .i64 a0_0, .int .i64 a0_1, .string a0_2] 99 (0, 0)) (Z2 BK346.out)) : gb347 ≠ gb346)); clear BK346; clear HB; have BK346 := n0_; have HB := n1_; have BK347 := n2_; have GW347 := n3_; have GE347 := n4_; have NB346_347 := n5_; have NB347_346 := n6_; clear n0_ n1_ n2_ n3_ n4_ n5_ n6_; clear hb hbox hg; have hnb13 := NB346_347.out; have hnc13 := NB347_346.out; have hcz14_0 : w12.cell? ⟨gb346, 0, none⟩ = some (.int .i64 a0_0) := (blk_cell BK346.out 0).trans rfl; have hcz14_1 : w12.cell? ⟨gb346, 1, none⟩ = some (.int .i64 a0_1) := (blk_cell BK346.out 1).trans rfl; have hcz14_2 : w12.cell? ⟨gb346, 2, none⟩ = some (.string a0_2) := (blk_cell BK346.out 2).trans rfl; have hfz14_0 := blk_frozen BK346.out 0; have hfz14_1 := blk_frozen BK346.out 1; have hfz14_2 := blk_frozen BK346.out 2; have hcz15_0 : w12.cell? ⟨gb347, 0, none⟩ = some (.int .i64 a1_0) := (blk_cell BK347.out 0).trans rfl; have hcz15_1 : w12.cell? ⟨gb347, 1, none⟩ = some (.int .i64 a1_1) := (blk_cell BK347.out 1).trans rfl; have hcz15_2 : w12.cell? ⟨gb347, 2, none⟩ = some (.string a1_2) := (blk_cell BK347.out 2).trans rfl; have hfz15_0 := blk_frozen BK347.out 0; have hfz15_1 := blk_frozen BK347.out 1; have hfz15_2 := blk_frozen BK347.out 2))
    go_ret
    exact ⟨Z4, Z5 GE346.out GE347.out⟩
  ·rw [if_neg c4] at H
   have c4b0 : (a0_1 == a1_1) = false := beq_eq_false_iff_ne.mpr c4
   have c4b1 : (a0_1 != a1_1) = true := bne_iff_ne.mpr c4
   obtain rfl := Option.some.inj H
   go_enter Try.func66, Try.ntmps66
   go_wp2_with (first | ((with_reducible refine gate_dst (N := 2) rfl ?_); refine box_event ?hg (N := 2) ?hd (cs := #[.int .i64 a0_0, .int .i64 a0_1, .string a0_2]) (t := 99) ?hr ?_; (case hd => rfl); (case hg => rfl); (case hr => exact Z11); intro gb346 hg w16 hbox hb; have n0_ := A_ (below_step Z0 hb); have n1_ := A_ (hbox); have n2_ := A_ ((by rw [hg]; exact (below_size Z0) : w.heap.size ≤ gb346)); have n3_ := A_ ((by rw [hg]; exact (below_size Z0) : w.heap.size ≤ gb346)); clear HB; have HB := n0_; have BK346 := n1_; have GW346 := n2_; have GE346 := n3_; clear n0_ n1_ n2_ n3_; clear hb hbox hg) | ((with_reducible refine gate_dst (N := 3) rfl ?_); refine box_event ?hg (N := 3) ?hd (cs := #[.int .i64 a1_0, .int .i64 a1_1, .string a1_2]) (t := 99) ?hr ?_; (case hd => rfl); (case hg => rfl); (case hr => exact Z11); intro gb347 hg w17 hbox hb; have n0_ := A_ (blk_below (g := gb346) (o := .cells #[.int .i64 a0_0, .int .i64 a0_1, .string a0_2] 99 (0, 0)) (Z2 BK346.out) hb); have n1_ := A_ (below_step (Z1 GE346.out) hb); have n2_ := A_ (hbox); have n3_ := A_ ((by rw [hg]; exact (below_size (Z1 GE346.out)) : w.heap.size ≤ gb347)); have n4_ := A_ ((by rw [hg]; exact (below_size (Z1 GE346.out)) : w.heap.size ≤ gb347)); have n5_ := A_ ((by rw [hg]; exact Nat.ne_of_lt (blk_lt (g := gb346) (o := .cells #[.int .i64 a0_0, .int .i64 a0_1, .string a0_2] 99 (0, 0)) (Z2 BK346.out)) : gb346 ≠ gb347)); have n6_ := A_ ((by rw [hg]; exact Nat.ne_of_gt (blk_lt (g := gb346) (o := .cells #[.int .i64 a0_0, .int .i64 a0_1, .string a0_2] 99 (0, 0)) (Z2 BK346.out)) : gb347 ≠ gb346)); clear BK346; clear HB; have BK346 := n0_; have HB := n1_; have BK347 := n2_; have GW347 := n3_; have GE347 := n4_; have NB346_347 := n5_; have NB347_346 := n6_; clear n0_ n1_ n2_ n3_ n4_ n5_ n6_; clear hb hbox hg; have hnb18 := NB346_347.out; have hnc18 := NB347_346.out; have hcz19_0 : w17.cell? ⟨gb346, 0, none⟩ = some (.int .i64 a0_0) := (blk_cell BK346.out 0).trans rfl; have hcz19_1 : w17.cell? ⟨gb346, 1, none⟩ = some (.int .i64 a0_1) := (blk_cell BK346.out 1).trans rfl; have hcz19_2 : w17.cell? ⟨gb346, 2, none⟩ = some (.string a0_2) := (blk_cell BK346.out 2).trans rfl; have hfz19_0 := blk_frozen BK346.out 0; have hfz19_1 := blk_frozen BK346.out 1; have hfz19_2 := blk_frozen BK346.out 2; have hcz20_0 : w17.cell? ⟨gb347, 0, none⟩ = some (.int .i64 a1_0) := (blk_cell BK347.out 0).trans rfl; have hcz20_1 : w17.cell? ⟨gb347, 1, none⟩ = some (.int .i64 a1_1) := (blk_cell BK347.out 1).trans rfl; have hcz20_2 : w17.cell? ⟨gb347, 2, none⟩ = some (.string a1_2) := (blk_cell BK347.out 2).trans rfl; have hfz20_0 := blk_frozen BK347.out 0; have hfz20_1 := blk_frozen BK347.out 1; have hfz20_2 := blk_frozen BK347.out 2))
   go_ret
   exact ⟨Z4, Z5 GE346.out GE347.out⟩
 ·rw [if_neg c3] at H
  have c3b0 : (a0_0 == a1_0) = false := beq_eq_false_iff_ne.mpr c3
  have c3b1 : (a0_0 != a1_0) = true := bne_iff_ne.mpr c3
  obtain rfl := Option.some.inj H
  go_enter Try.func66, Try.ntmps66
  go_wp2_with (first | ((with_reducible refine gate_dst (N := 2) rfl ?_); refine box_event ?hg (N := 2) ?hd (cs := #[.int .i64 a0_0, .int .i64 a0_1, .string a0_2]) (t := 99) ?hr ?_; (case hd => rfl); (case hg => rfl); (case hr => exact Z11); intro gb346 hg w21 hbox hb; have n0_ := A_ (below_step Z0 hb); have n1_ := A_ (hbox); have n2_ := A_ ((by rw [hg]; exact (below_size Z0) : w.heap.size ≤ gb346)); have n3_ := A_ ((by rw [hg]; exact (below_size Z0) : w.heap.size ≤ gb346)); clear HB; have HB := n0_; have BK346 := n1_; have GW346 := n2_; have GE346 := n3_; clear n0_ n1_ n2_ n3_; clear hb hbox hg) | ((with_reducible refine gate_dst (N := 3) rfl ?_); refine box_event ?hg (N := 3) ?hd (cs := #[.int .i64 a1_0, .int .i64 a1_1, .string a1_2]) (t := 99) ?hr ?_; (case hd => rfl); (case hg => rfl); (case hr => exact Z11); intro gb347 hg w22 hbox hb; have n0_ := A_ (blk_below (g := gb346) (o := .cells #[.int .i64 a0_0, .int .i64 a0_1, .string a0_2] 99 (0, 0)) (Z2 BK346.out) hb); have n1_ := A_ (below_step (Z1 GE346.out) hb); have n2_ := A_ (hbox); have n3_ := A_ ((by rw [hg]; exact (below_size (Z1 GE346.out)) : w.heap.size ≤ gb347)); have n4_ := A_ ((by rw [hg]; exact (below_size (Z1 GE346.out)) : w.heap.size ≤ gb347)); have n5_ := A_ ((by rw [hg]; exact Nat.ne_of_lt (blk_lt (g := gb346) (o := .cells #[.int .i64 a0_0, .int .i64 a0_1, .string a0_2] 99 (0, 0)) (Z2 BK346.out)) : gb346 ≠ gb347)); have n6_ := A_ ((by rw [hg]; exact Nat.ne_of_gt (blk_lt (g := gb346) (o := .cells #[.int .i64 a0_0, .int .i64 a0_1, .string a0_2] 99 (0, 0)) (Z2 BK346.out)) : gb347 ≠ gb346)); clear BK346; clear HB; have BK346 := n0_; have HB := n1_; have BK347 := n2_; have GW347 := n3_; have GE347 := n4_; have NB346_347 := n5_; have NB347_346 := n6_; clear n0_ n1_ n2_ n3_ n4_ n5_ n6_; clear hb hbox hg; have hnb23 := NB346_347.out; have hnc23 := NB347_346.out; have hcz24_0 : w22.cell? ⟨gb346, 0, none⟩ = some (.int .i64 a0_0) := (blk_cell BK346.out 0).trans rfl; have hcz24_1 : w22.cell? ⟨gb346, 1, none⟩ = some (.int .i64 a0_1) := (blk_cell BK346.out 1).trans rfl; have hcz24_2 : w22.cell? ⟨gb346, 2, none⟩ = some (.string a0_2) := (blk_cell BK346.out 2).trans rfl; have hfz24_0 := blk_frozen BK346.out 0; have hfz24_1 := blk_frozen BK346.out 1; have hfz24_2 := blk_frozen BK346.out 2; have hcz25_0 : w22.cell? ⟨gb347, 0, none⟩ = some (.int .i64 a1_0) := (blk_cell BK347.out 0).trans rfl; have hcz25_1 : w22.cell? ⟨gb347, 1, none⟩ = some (.int .i64 a1_1) := (blk_cell BK347.out 1).trans rfl; have hcz25_2 : w22.cell? ⟨gb347, 2, none⟩ = some (.string a1_2) := (blk_cell BK347.out 2).trans rfl; have hfz25_0 := blk_frozen BK347.out 0; have hfz25_1 := blk_frozen BK347.out 1; have hfz25_2 := blk_frozen BK347.out 2))
  go_ret
  exact ⟨Z4, Z5 GE346.out GE347.out⟩
end Go.Proofs.Ytpadhphdglbciaa.PFnExactTurnsCut
