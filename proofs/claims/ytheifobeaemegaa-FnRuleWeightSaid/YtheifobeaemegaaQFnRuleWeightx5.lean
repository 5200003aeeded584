/- Walks of the functions that the law 'FnRuleWeight' reaches, part 5: for each a Lean function and the proof that Go's comes to just its answer (lines of the print, under own names; no condition). -/
import Derived.Test.YtheifobeaemegaaQFnRuleWeightx0
import Derived.Test.YtheifobeaemegaaQFnRuleWeightx1
import Derived.Test.YtheifobeaemegaaQFnRuleWeightx3
import Derived.Test.YtheifobeaemegaaQFnRuleWeightx4
namespace Go.Proofs.Ytheifobeaemegaa.PFnRuleWeight
open Go.RowKit Go.Proofs.YtheifobeaemegaaW.PrintWords Go.Proofs.YtheifobeaemegaaW.PrintLast Go.Proofs.YtheifobeaemegaaW.PrintMore
attribute [local go_sem] max2_int min2_int max_two min_two max_three min_three max_four min_four   -- for this text's walks alone
set_option linter.unusedVariables false
set_option linter.unusedSimpArgs false

attribute [local go_sem high] eqA28
/-! ### impl_RulesOk: function 10 -/
mutual
def impl_RulesOk.l0 : Nat → List (S30) → List (S30) → Int → Int → Option (Bool)
  | 0, _, _, _, _ => none
  | k + 1, x0, x5, x6, x7 => if x7 < x6 then (if 0 ≤ x7 then (if x7 < (x5.length : Int) then ((impl_within.f ((rd_T30 x5 x7).f0) (-1) 4).bind fun t255 => (if t255 = true then ((impl_within.f ((rd_T30 x5 x7).f1) (-1) 4).bind fun t256 => (if t256 = true then ((impl_within.f ((rd_T30 x5 x7).f2) (-1) 3).bind fun t257 => (if t257 = true then ((impl_within.f ((rd_T30 x5 x7).f4) 0 4).bind fun t258 => (if t258 = true then ((impl_within.f ((rd_T30 x5 x7).f5) 0 60).bind fun t259 => (impl_RulesOk.j1 k x0 x5 x6 x7 (!t259) ((rd_T30 x5 x7).f0) ((rd_T30 x5 x7).f1) ((rd_T30 x5 x7).f2) ((rd_T30 x5 x7).f3.f0) ((rd_T30 x5 x7).f3.f1) ((rd_T30 x5 x7).f3.f2) ((rd_T30 x5 x7).f4) ((rd_T30 x5 x7).f5))) else (impl_RulesOk.j1 k x0 x5 x6 x7 true ((rd_T30 x5 x7).f0) ((rd_T30 x5 x7).f1) ((rd_T30 x5 x7).f2) ((rd_T30 x5 x7).f3.f0) ((rd_T30 x5 x7).f3.f1) ((rd_T30 x5 x7).f3.f2) ((rd_T30 x5 x7).f4) ((rd_T30 x5 x7).f5)))) else (impl_RulesOk.j1 k x0 x5 x6 x7 true ((rd_T30 x5 x7).f0) ((rd_T30 x5 x7).f1) ((rd_T30 x5 x7).f2) ((rd_T30 x5 x7).f3.f0) ((rd_T30 x5 x7).f3.f1) ((rd_T30 x5 x7).f3.f2) ((rd_T30 x5 x7).f4) ((rd_T30 x5 x7).f5)))) else (impl_RulesOk.j1 k x0 x5 x6 x7 true ((rd_T30 x5 x7).f0) ((rd_T30 x5 x7).f1) ((rd_T30 x5 x7).f2) ((rd_T30 x5 x7).f3.f0) ((rd_T30 x5 x7).f3.f1) ((rd_T30 x5 x7).f3.f2) ((rd_T30 x5 x7).f4) ((rd_T30 x5 x7).f5)))) else (impl_RulesOk.j1 k x0 x5 x6 x7 true ((rd_T30 x5 x7).f0) ((rd_T30 x5 x7).f1) ((rd_T30 x5 x7).f2) ((rd_T30 x5 x7).f3.f0) ((rd_T30 x5 x7).f3.f1) ((rd_T30 x5 x7).f3.f2) ((rd_T30 x5 x7).f4) ((rd_T30 x5 x7).f5)))) else (none)) else (none)) else (some (decide ((x0.length : Int) ≤ 12)))
def impl_RulesOk.j1 : Nat → List (S30) → List (S30) → Int → Int → Bool → Int → Int → Int → Int → Int → ByteArray → Int → Int → Option (Bool)
  | 0, _, _, _, _, _, _, _, _, _, _, _, _, _ => none
  | k + 1, x0, x5, x6, x7, x38, x255000, x255001, x255002, x255003, x255004, x255005, x255006, x255007 => if x38 = true then (some false) else (if x255002 = (-1) then (if (!(x255003 == 0) || (!(x255004 == 0) || (!(x255005.toList == ([] : List UInt8))))) = true then (some false) else ((impl_ValOk.f k x255003 x255004 x255005).bind fun t260 => (if t260 = true then (impl_RulesOk.l0 k x0 x5 x6 (wrap64 (x7 + 1))) else (some false)))) else ((impl_ValOk.f k x255003 x255004 x255005).bind fun t261 => (if t261 = true then (impl_RulesOk.l0 k x0 x5 x6 (wrap64 (x7 + 1))) else (some false))))
end
def impl_RulesOk.f (k : Nat) (l0 : List (S30)) : Option (Bool) := impl_RulesOk.l0 k l0 l0 (l0.length : Int) 0
theorem impl_RulesOk.mono_l : ∀ k, (∀ y0 y1 y2 y3, LeO (impl_RulesOk.l0 k y0 y1 y2 y3) (impl_RulesOk.l0 (k + 1) y0 y1 y2 y3)) ∧ (∀ y0 y1 y2 y3 y4 y5 y6 y7 y8 y9 y10 y11 y12, LeO (impl_RulesOk.j1 k y0 y1 y2 y3 y4 y5 y6 y7 y8 y9 y10 y11 y12) (impl_RulesOk.j1 (k + 1) y0 y1 y2 y3 y4 y5 y6 y7 y8 y9 y10 y11 y12))
  | 0 => ⟨fun _ _ _ _ r h => by simp [impl_RulesOk.l0] at h, fun _ _ _ _ _ _ _ _ _ _ _ _ _ r h => by simp [impl_RulesOk.j1] at h⟩
  | k + 1 => by
    obtain ⟨ih0, ih1⟩ := impl_RulesOk.mono_l k
    refine ⟨?_, ?_⟩
    · intro y0 y1 y2 y3
      unfold impl_RulesOk.l0
      repeat' first
      | (with_reducible exact ih0 _ _ _ _)
      | (with_reducible exact ih1 _ _ _ _ _ _ _ _ _ _ _ _ _)
      | (with_reducible exact impl_ValOk.mono _ _ _ _)
      | (with_reducible exact LeO.refl _)
      | (with_reducible exact LeO.none _)
      | (with_reducible refine LeO.ite ?_ ?_)
      | (with_reducible refine LeO.bind ?_ (fun _ => ?_))
      | exact ih0 _ _ _ _
      | exact ih1 _ _ _ _ _ _ _ _ _ _ _ _ _
      | exact impl_ValOk.mono _ _ _ _
      | exact LeO.none _
      | refine LeO.ite ?_ ?_
      | refine LeO.bind ?_ (fun _ => ?_)
    · intro y0 y1 y2 y3 y4 y5 y6 y7 y8 y9 y10 y11 y12
      unfold impl_RulesOk.j1
      repeat' first
      | (with_reducible exact ih0 _ _ _ _)
      | (with_reducible exact ih1 _ _ _ _ _ _ _ _ _ _ _ _ _)
      | (with_reducible exact impl_ValOk.mono _ _ _ _)
      | (with_reducible exact LeO.refl _)
      | (with_reducible exact LeO.none _)
      | (with_reducible refine LeO.ite ?_ ?_)
      | (with_reducible refine LeO.bind ?_ (fun _ => ?_))
      | exact ih0 _ _ _ _
      | exact ih1 _ _ _ _ _ _ _ _ _ _ _ _ _
      | exact impl_ValOk.mono _ _ _ _
      | exact LeO.none _
      | refine LeO.ite ?_ ?_
      | refine LeO.bind ?_ (fun _ => ?_)
theorem impl_RulesOk.mono : ∀ a0 k, LeO (impl_RulesOk.f k a0) (impl_RulesOk.f (k + 1) a0) := by
  intro a0 k
  obtain ⟨ih0, ih1⟩ := impl_RulesOk.mono_l k
  unfold impl_RulesOk.f
  repeat' first
      | (with_reducible exact ih0 _ _ _ _)
      | (with_reducible exact ih1 _ _ _ _ _ _ _ _ _ _ _ _ _)
      | (with_reducible exact impl_ValOk.mono _ _ _ _)
      | (with_reducible exact LeO.refl _)
      | (with_reducible exact LeO.none _)
      | (with_reducible refine LeO.ite ?_ ?_)
      | (with_reducible refine LeO.bind ?_ (fun _ => ?_))
      | exact ih0 _ _ _ _
      | exact ih1 _ _ _ _ _ _ _ _ _ _ _ _ _
      | exact impl_ValOk.mono _ _ _ _
      | exact LeO.none _
      | refine LeO.ite ?_ ?_
      | refine LeO.bind ?_ (fun _ => ?_)
set_option maxHeartbeats 8000000 in
set_option maxRecDepth 100000 in
theorem impl_RulesOk.calls (k : Nat) (A0 : Option Addr) (c0 : Nat) (l0 : List (S30)) (r : Bool) (w : World) (hr0 : Kd.C k30 w A0 l0.length l0) (hc0 : l0.length ≤ c0) (h : impl_RulesOk.f k l0 = some r) :
    Calls Try.prog 10 #[.slice A0 l0.length c0] w fun e w' => e = .returned (.bool r) ∧ Below w.heap.size w w' := by
  have hu30 := Try.underlying30
  have hu28 := Try.underlying28
  have HR0 := Aside0.mk hr0
  have HC0 := Aside0.mk hc0
  clear hr0 hc0
  have HB := Aside0.mk (Below.refl w.heap.size w)
  have H : (impl_RulesOk.l0 k l0 l0 (l0.length : Int) 0) = some r := h
  clear h
  have H' := Aside0.mk H
  clear H
  go_enter Try.func10, Try.ntmps10
  go_wp2
  go_loopg [7] k (fun kq v7 w' => ∃ (x7_1 : Int), v7 = .int .i64 x7_1 ∧ Aside0 (impl_RulesOk.l0 kq l0 l0 (l0.length : Int) x7_1 = some r) ∧ Aside0 (kq ≤ k) ∧ Aside0 (Below w.heap.size w w'))
  case atStart => exact ⟨(0), (by first | rfl | (simp; done) | (simp [*]; done)), H', ⟨Nat.le_refl _⟩, ⟨by repeat (first | (with_reducible first | exact HB.out | apply below_alloc | apply pw_below_drewN | apply below_drew1) | exact HB.out)⟩⟩
  case round =>
    clear H'
    try clear c1
    obtain ⟨x7_1, rfl, HA, HK1, HB⟩ := hrel
    cases gk with
    | zero => exact absurd HA.out (by simp [impl_RulesOk.l0])
    | succ k1 =>
      have H := HA.out
      clear HA
      simp only [impl_RulesOk.l0] at H
      by_cases c2 : x7_1 < (l0.length : Int)
      · rw [if_pos c2] at H
        have c2b0 : decide (x7_1 < (l0.length : Int)) = true := decide_eq_true c2
        clear c2
        by_cases c3 : 0 ≤ x7_1
        · rw [if_pos c3] at H
          have c3b0 : decide (0 ≤ x7_1) = true := decide_eq_true c3
          clear c3
          by_cases c4 : x7_1 < (l0.length : Int)
          · rw [if_pos c4] at H
            have c4b0 : decide (x7_1 < (l0.length : Int)) = true := decide_eq_true c4
            clear c4
            have HC5 := Aside0.mk H
            clear H
            have p253 : 0 ≤ (x7_1 : Int) := of_decide_eq_true (by first | (with_reducible assumption) | assumption)
            have q253 : x7_1 < (l0.length : Int) := of_decide_eq_true (by first | (with_reducible assumption) | assumption)
            obtain ⟨ad253, e253, hx253_0, hx253_1, hx253_2, hx253_3, hx253_4, hx253_5, hx253_6, hx253_7⟩ := at_T30 HR0.out x7_1 p253 q253
            cases e253
            replace hx253_0 := (HB.out.cell (World.block_lt_of_cell? w _ hx253_0)).trans hx253_0
            replace hx253_1 := (HB.out.cell (World.block_lt_of_cell? w _ hx253_1)).trans hx253_1
            replace hx253_2 := (HB.out.cell (World.block_lt_of_cell? w _ hx253_2)).trans hx253_2
            replace hx253_3 := (HB.out.cell (World.block_lt_of_cell? w _ hx253_3)).trans hx253_3
            replace hx253_4 := (HB.out.cell (World.block_lt_of_cell? w _ hx253_4)).trans hx253_4
            replace hx253_5 := (HB.out.cell (World.block_lt_of_cell? w _ hx253_5)).trans hx253_5
            replace hx253_6 := (HB.out.cell (World.block_lt_of_cell? w _ hx253_6)).trans hx253_6
            replace hx253_7 := (HB.out.cell (World.block_lt_of_cell? w _ hx253_7)).trans hx253_7
            replace p253 := eq_true p253
            replace q253 := eq_true q253
            go_upto_region 4 with (first | ((with_reducible refine gate_dst (N := 4) rfl ?_); refine box_event ?hg (N := 4) ?hd (cs := #[.int .i64 0, .int .i64 0, .int .i64 0, .int .i64 0, .int .i64 0, .string (⟨#[]⟩ : ByteArray), .int .i64 0, .int .i64 0]) (t := 30) ?hr ?_; (case hd => rfl); (case hg => rfl); (case hr => first | (go_simp; done) | (go_simp; rfl)); intro gb254 hg w6 hbox hb; have n0_ := Aside0.mk (below_step (by repeat (first | (with_reducible first | exact HB.out | apply below_alloc | apply pw_below_drewN | apply below_drew1) | exact HB.out)) hb); have n1_ := Aside0.mk (hbox); have n2_ := Aside0.mk ((by rw [hg]; exact (below_size (by repeat (first | (with_reducible first | exact HB.out | apply below_alloc | apply pw_below_drewN | apply below_drew1) | exact HB.out))) : w.heap.size ≤ gb254)); have n3_ := Aside0.mk ((by rw [hg]; exact (below_size (by repeat (first | (with_reducible first | exact HB.out | apply below_alloc | apply pw_below_drewN | apply below_drew1) | exact HB.out))) : w.heap.size ≤ gb254)); clear HB; have HB := n0_; have BK254 := n1_; have GW254 := n2_; have GE254 := n3_; clear n0_ n1_ n2_ n3_; clear hb hbox hg; have hcz7_0 : w6.cell? ⟨gb254, 0, none⟩ = some (.int .i64 0) := (blk_cell BK254.out 0).trans rfl; have hcz7_1 : w6.cell? ⟨gb254, 1, none⟩ = some (.int .i64 0) := (blk_cell BK254.out 1).trans rfl; have hcz7_2 : w6.cell? ⟨gb254, 2, none⟩ = some (.int .i64 0) := (blk_cell BK254.out 2).trans rfl; have hcz7_3 : w6.cell? ⟨gb254, 3, none⟩ = some (.int .i64 0) := (blk_cell BK254.out 3).trans rfl; have hcz7_4 : w6.cell? ⟨gb254, 4, none⟩ = some (.int .i64 0) := (blk_cell BK254.out 4).trans rfl; have hcz7_5 : w6.cell? ⟨gb254, 5, none⟩ = some (.string (⟨#[]⟩ : ByteArray)) := (blk_cell BK254.out 5).trans rfl; have hcz7_6 : w6.cell? ⟨gb254, 6, none⟩ = some (.int .i64 0) := (blk_cell BK254.out 6).trans rfl; have hcz7_7 : w6.cell? ⟨gb254, 7, none⟩ = some (.int .i64 0) := (blk_cell BK254.out 7).trans rfl; have hfz7_0 := blk_frozen BK254.out 0; have hfz7_1 := blk_frozen BK254.out 1; have hfz7_2 := blk_frozen BK254.out 2; have hfz7_3 := blk_frozen BK254.out 3; have hfz7_4 := blk_frozen BK254.out 4; have hfz7_5 := blk_frozen BK254.out 5; have hfz7_6 := blk_frozen BK254.out 6; have hfz7_7 := blk_frozen BK254.out 7))
            (try simp only [Act.put, List.setIfInBounds_toArray, List.set_cons_zero, List.set_cons_succ])
            go_cut [38] (fun v38 wc => ∃ (kq : Nat) (x38_4 : Bool), v38 = .bool x38_4 ∧ Aside0 (impl_RulesOk.j1 kq l0 l0 (l0.length : Int) x7_1 x38_4 ((rd_T30 l0 x7_1).f0) ((rd_T30 l0 x7_1).f1) ((rd_T30 l0 x7_1).f2) ((rd_T30 l0 x7_1).f3.f0) ((rd_T30 l0 x7_1).f3.f1) ((rd_T30 l0 x7_1).f3.f2) ((rd_T30 l0 x7_1).f4) ((rd_T30 l0 x7_1).f5) = some r) ∧ Aside0 (kq ≤ k1) ∧ Aside0 (wc.heap[gb254]? = some (.cells #[.int .i64 ((rd_T30 l0 x7_1).f0), .int .i64 ((rd_T30 l0 x7_1).f1), .int .i64 ((rd_T30 l0 x7_1).f2), .int .i64 ((rd_T30 l0 x7_1).f3.f0), .int .i64 ((rd_T30 l0 x7_1).f3.f1), .string ((rd_T30 l0 x7_1).f3.f2), .int .i64 ((rd_T30 l0 x7_1).f4), .int .i64 ((rd_T30 l0 x7_1).f5)] 30 (0, 0))) ∧ Aside0 (Below w.heap.size w wc))
            case first =>
              have H := HC5.out
              clear HC5
              replace H := Option.bind_eq_some_iff.mp H
              obtain ⟨t255, A80, H⟩ := H
              replace H : (if t255 = true then ((impl_within.f ((rd_T30 l0 x7_1).f1) (-1) 4).bind fun t256 => (if t256 = true then ((impl_within.f ((rd_T30 l0 x7_1).f2) (-1) 3).bind fun t257 => (if t257 = true then ((impl_within.f ((rd_T30 l0 x7_1).f4) 0 4).bind fun t258 => (if t258 = true then ((impl_within.f ((rd_T30 l0 x7_1).f5) 0 60).bind fun t259 => (impl_RulesOk.j1 k1 l0 l0 (l0.length : Int) x7_1 (!t259) ((rd_T30 l0 x7_1).f0) ((rd_T30 l0 x7_1).f1) ((rd_T30 l0 x7_1).f2) ((rd_T30 l0 x7_1).f3.f0) ((rd_T30 l0 x7_1).f3.f1) ((rd_T30 l0 x7_1).f3.f2) ((rd_T30 l0 x7_1).f4) ((rd_T30 l0 x7_1).f5))) else (impl_RulesOk.j1 k1 l0 l0 (l0.length : Int) x7_1 true ((rd_T30 l0 x7_1).f0) ((rd_T30 l0 x7_1).f1) ((rd_T30 l0 x7_1).f2) ((rd_T30 l0 x7_1).f3.f0) ((rd_T30 l0 x7_1).f3.f1) ((rd_T30 l0 x7_1).f3.f2) ((rd_T30 l0 x7_1).f4) ((rd_T30 l0 x7_1).f5)))) else (impl_RulesOk.j1 k1 l0 l0 (l0.length : Int) x7_1 true ((rd_T30 l0 x7_1).f0) ((rd_T30 l0 x7_1).f1) ((rd_T30 l0 x7_1).f2) ((rd_T30 l0 x7_1).f3.f0) ((rd_T30 l0 x7_1).f3.f1) ((rd_T30 l0 x7_1).f3.f2) ((rd_T30 l0 x7_1).f4) ((rd_T30 l0 x7_1).f5)))) else (impl_RulesOk.j1 k1 l0 l0 (l0.length : Int) x7_1 true ((rd_T30 l0 x7_1).f0) ((rd_T30 l0 x7_1).f1) ((rd_T30 l0 x7_1).f2) ((rd_T30 l0 x7_1).f3.f0) ((rd_T30 l0 x7_1).f3.f1) ((rd_T30 l0 x7_1).f3.f2) ((rd_T30 l0 x7_1).f4) ((rd_T30 l0 x7_1).f5)))) else (impl_RulesOk.j1 k1 l0 l0 (l0.length : Int) x7_1 true ((rd_T30 l0 x7_1).f0) ((rd_T30 l0 x7_1).f1) ((rd_T30 l0 x7_1).f2) ((rd_T30 l0 x7_1).f3.f0) ((rd_T30 l0 x7_1).f3.f1) ((rd_T30 l0 x7_1).f3.f2) ((rd_T30 l0 x7_1).f4) ((rd_T30 l0 x7_1).f5))) = some r := H
              have A8 := Aside0.mk A80
              clear A80
              by_cases c9 : t255 = true
              · subst c9
                have H1 : ((impl_within.f ((rd_T30 l0 x7_1).f1) (-1) 4).bind fun t256 => (if t256 = true then ((impl_within.f ((rd_T30 l0 x7_1).f2) (-1) 3).bind fun t257 => (if t257 = true then ((impl_within.f ((rd_T30 l0 x7_1).f4) 0 4).bind fun t258 => (if t258 = true then ((impl_within.f ((rd_T30 l0 x7_1).f5) 0 60).bind fun t259 => (impl_RulesOk.j1 k1 l0 l0 (l0.length : Int) x7_1 (!t259) ((rd_T30 l0 x7_1).f0) ((rd_T30 l0 x7_1).f1) ((rd_T30 l0 x7_1).f2) ((rd_T30 l0 x7_1).f3.f0) ((rd_T30 l0 x7_1).f3.f1) ((rd_T30 l0 x7_1).f3.f2) ((rd_T30 l0 x7_1).f4) ((rd_T30 l0 x7_1).f5))) else (impl_RulesOk.j1 k1 l0 l0 (l0.length : Int) x7_1 true ((rd_T30 l0 x7_1).f0) ((rd_T30 l0 x7_1).f1) ((rd_T30 l0 x7_1).f2) ((rd_T30 l0 x7_1).f3.f0) ((rd_T30 l0 x7_1).f3.f1) ((rd_T30 l0 x7_1).f3.f2) ((rd_T30 l0 x7_1).f4) ((rd_T30 l0 x7_1).f5)))) else (impl_RulesOk.j1 k1 l0 l0 (l0.length : Int) x7_1 true ((rd_T30 l0 x7_1).f0) ((rd_T30 l0 x7_1).f1) ((rd_T30 l0 x7_1).f2) ((rd_T30 l0 x7_1).f3.f0) ((rd_T30 l0 x7_1).f3.f1) ((rd_T30 l0 x7_1).f3.f2) ((rd_T30 l0 x7_1).f4) ((rd_T30 l0 x7_1).f5)))) else (impl_RulesOk.j1 k1 l0 l0 (l0.length : Int) x7_1 true ((rd_T30 l0 x7_1).f0) ((rd_T30 l0 x7_1).f1) ((rd_T30 l0 x7_1).f2) ((rd_T30 l0 x7_1).f3.f0) ((rd_T30 l0 x7_1).f3.f1) ((rd_T30 l0 x7_1).f3.f2) ((rd_T30 l0 x7_1).f4) ((rd_T30 l0 x7_1).f5)))) = some r := by rw [if_pos rfl] at H; exact H
                clear H
                have H := H1
                clear H1
                replace H := Option.bind_eq_some_iff.mp H
                obtain ⟨t256, A100, H⟩ := H
                replace H : (if t256 = true then ((impl_within.f ((rd_T30 l0 x7_1).f2) (-1) 3).bind fun t257 => (if t257 = true then ((impl_within.f ((rd_T30 l0 x7_1).f4) 0 4).bind fun t258 => (if t258 = true then ((impl_within.f ((rd_T30 l0 x7_1).f5) 0 60).bind fun t259 => (impl_RulesOk.j1 k1 l0 l0 (l0.length : Int) x7_1 (!t259) ((rd_T30 l0 x7_1).f0) ((rd_T30 l0 x7_1).f1) ((rd_T30 l0 x7_1).f2) ((rd_T30 l0 x7_1).f3.f0) ((rd_T30 l0 x7_1).f3.f1) ((rd_T30 l0 x7_1).f3.f2) ((rd_T30 l0 x7_1).f4) ((rd_T30 l0 x7_1).f5))) else (impl_RulesOk.j1 k1 l0 l0 (l0.length : Int) x7_1 true ((rd_T30 l0 x7_1).f0) ((rd_T30 l0 x7_1).f1) ((rd_T30 l0 x7_1).f2) ((rd_T30 l0 x7_1).f3.f0) ((rd_T30 l0 x7_1).f3.f1) ((rd_T30 l0 x7_1).f3.f2) ((rd_T30 l0 x7_1).f4) ((rd_T30 l0 x7_1).f5)))) else (impl_RulesOk.j1 k1 l0 l0 (l0.length : Int) x7_1 true ((rd_T30 l0 x7_1).f0) ((rd_T30 l0 x7_1).f1) ((rd_T30 l0 x7_1).f2) ((rd_T30 l0 x7_1).f3.f0) ((rd_T30 l0 x7_1).f3.f1) ((rd_T30 l0 x7_1).f3.f2) ((rd_T30 l0 x7_1).f4) ((rd_T30 l0 x7_1).f5)))) else (impl_RulesOk.j1 k1 l0 l0 (l0.length : Int) x7_1 true ((rd_T30 l0 x7_1).f0) ((rd_T30 l0 x7_1).f1) ((rd_T30 l0 x7_1).f2) ((rd_T30 l0 x7_1).f3.f0) ((rd_T30 l0 x7_1).f3.f1) ((rd_T30 l0 x7_1).f3.f2) ((rd_T30 l0 x7_1).f4) ((rd_T30 l0 x7_1).f5))) = some r := H
                have A10 := Aside0.mk A100
                clear A100
                by_cases c11 : t256 = true
                · subst c11
                  have H1 : ((impl_within.f ((rd_T30 l0 x7_1).f2) (-1) 3).bind fun t257 => (if t257 = true then ((impl_within.f ((rd_T30 l0 x7_1).f4) 0 4).bind fun t258 => (if t258 = true then ((impl_within.f ((rd_T30 l0 x7_1).f5) 0 60).bind fun t259 => (impl_RulesOk.j1 k1 l0 l0 (l0.length : Int) x7_1 (!t259) ((rd_T30 l0 x7_1).f0) ((rd_T30 l0 x7_1).f1) ((rd_T30 l0 x7_1).f2) ((rd_T30 l0 x7_1).f3.f0) ((rd_T30 l0 x7_1).f3.f1) ((rd_T30 l0 x7_1).f3.f2) ((rd_T30 l0 x7_1).f4) ((rd_T30 l0 x7_1).f5))) else (impl_RulesOk.j1 k1 l0 l0 (l0.length : Int) x7_1 true ((rd_T30 l0 x7_1).f0) ((rd_T30 l0 x7_1).f1) ((rd_T30 l0 x7_1).f2) ((rd_T30 l0 x7_1).f3.f0) ((rd_T30 l0 x7_1).f3.f1) ((rd_T30 l0 x7_1).f3.f2) ((rd_T30 l0 x7_1).f4) ((rd_T30 l0 x7_1).f5)))) else (impl_RulesOk.j1 k1 l0 l0 (l0.length : Int) x7_1 true ((rd_T30 l0 x7_1).f0) ((rd_T30 l0 x7_1).f1) ((rd_T30 l0 x7_1).f2) ((rd_T30 l0 x7_1).f3.f0) ((rd_T30 l0 x7_1).f3.f1) ((rd_T30 l0 x7_1).f3.f2) ((rd_T30 l0 x7_1).f4) ((rd_T30 l0 x7_1).f5)))) = some r := by rw [if_pos rfl] at H; exact H
                  clear H
                  have H := H1
                  clear H1
                  replace H := Option.bind_eq_some_iff.mp H
                  obtain ⟨t257, A120, H⟩ := H
                  replace H : (if t257 = true then ((impl_within.f ((rd_T30 l0 x7_1).f4) 0 4).bind fun t258 => (if t258 = true then ((impl_within.f ((rd_T30 l0 x7_1).f5) 0 60).bind fun t259 => (impl_RulesOk.j1 k1 l0 l0 (l0.length : Int) x7_1 (!t259) ((rd_T30 l0 x7_1).f0) ((rd_T30 l0 x7_1).f1) ((rd_T30 l0 x7_1).f2) ((rd_T30 l0 x7_1).f3.f0) ((rd_T30 l0 x7_1).f3.f1) ((rd_T30 l0 x7_1).f3.f2) ((rd_T30 l0 x7_1).f4) ((rd_T30 l0 x7_1).f5))) else (impl_RulesOk.j1 k1 l0 l0 (l0.length : Int) x7_1 true ((rd_T30 l0 x7_1).f0) ((rd_T30 l0 x7_1).f1) ((rd_T30 l0 x7_1).f2) ((rd_T30 l0 x7_1).f3.f0) ((rd_T30 l0 x7_1).f3.f1) ((rd_T30 l0 x7_1).f3.f2) ((rd_T30 l0 x7_1).f4) ((rd_T30 l0 x7_1).f5)))) else (impl_RulesOk.j1 k1 l0 l0 (l0.length : Int) x7_1 true ((rd_T30 l0 x7_1).f0) ((rd_T30 l0 x7_1).f1) ((rd_T30 l0 x7_1).f2) ((rd_T30 l0 x7_1).f3.f0) ((rd_T30 l0 x7_1).f3.f1) ((rd_T30 l0 x7_1).f3.f2) ((rd_T30 l0 x7_1).f4) ((rd_T30 l0 x7_1).f5))) = some r := H
                  have A12 := Aside0.mk A120
                  clear A120
                  by_cases c13 : t257 = true
                  · subst c13
                    have H1 : ((impl_within.f ((rd_T30 l0 x7_1).f4) 0 4).bind fun t258 => (if t258 = true then ((impl_within.f ((rd_T30 l0 x7_1).f5) 0 60).bind fun t259 => (impl_RulesOk.j1 k1 l0 l0 (l0.length : Int) x7_1 (!t259) ((rd_T30 l0 x7_1).f0) ((rd_T30 l0 x7_1).f1) ((rd_T30 l0 x7_1).f2) ((rd_T30 l0 x7_1).f3.f0) ((rd_T30 l0 x7_1).f3.f1) ((rd_T30 l0 x7_1).f3.f2) ((rd_T30 l0 x7_1).f4) ((rd_T30 l0 x7_1).f5))) else (impl_RulesOk.j1 k1 l0 l0 (l0.length : Int) x7_1 true ((rd_T30 l0 x7_1).f0) ((rd_T30 l0 x7_1).f1) ((rd_T30 l0 x7_1).f2) ((rd_T30 l0 x7_1).f3.f0) ((rd_T30 l0 x7_1).f3.f1) ((rd_T30 l0 x7_1).f3.f2) ((rd_T30 l0 x7_1).f4) ((rd_T30 l0 x7_1).f5)))) = some r := by rw [if_pos rfl] at H; exact H
                    clear H
                    have H := H1
                    clear H1
                    replace H := Option.bind_eq_some_iff.mp H
                    obtain ⟨t258, A140, H⟩ := H
                    replace H : (if t258 = true then ((impl_within.f ((rd_T30 l0 x7_1).f5) 0 60).bind fun t259 => (impl_RulesOk.j1 k1 l0 l0 (l0.length : Int) x7_1 (!t259) ((rd_T30 l0 x7_1).f0) ((rd_T30 l0 x7_1).f1) ((rd_T30 l0 x7_1).f2) ((rd_T30 l0 x7_1).f3.f0) ((rd_T30 l0 x7_1).f3.f1) ((rd_T30 l0 x7_1).f3.f2) ((rd_T30 l0 x7_1).f4) ((rd_T30 l0 x7_1).f5))) else (impl_RulesOk.j1 k1 l0 l0 (l0.length : Int) x7_1 true ((rd_T30 l0 x7_1).f0) ((rd_T30 l0 x7_1).f1) ((rd_T30 l0 x7_1).f2) ((rd_T30 l0 x7_1).f3.f0) ((rd_T30 l0 x7_1).f3.f1) ((rd_T30 l0 x7_1).f3.f2) ((rd_T30 l0 x7_1).f4) ((rd_T30 l0 x7_1).f5))) = some r := H
                    have A14 := Aside0.mk A140
                    clear A140
                    by_cases c15 : t258 = true
                    · subst c15
                      have H1 : ((impl_within.f ((rd_T30 l0 x7_1).f5) 0 60).bind fun t259 => (impl_RulesOk.j1 k1 l0 l0 (l0.length : Int) x7_1 (!t259) ((rd_T30 l0 x7_1).f0) ((rd_T30 l0 x7_1).f1) ((rd_T30 l0 x7_1).f2) ((rd_T30 l0 x7_1).f3.f0) ((rd_T30 l0 x7_1).f3.f1) ((rd_T30 l0 x7_1).f3.f2) ((rd_T30 l0 x7_1).f4) ((rd_T30 l0 x7_1).f5))) = some r := by rw [if_pos rfl] at H; exact H
                      clear H
                      have H := H1
                      clear H1
                      replace H := Option.bind_eq_some_iff.mp H
                      obtain ⟨t259, A160, H⟩ := H
                      replace H : (impl_RulesOk.j1 k1 l0 l0 (l0.length : Int) x7_1 (!t259) ((rd_T30 l0 x7_1).f0) ((rd_T30 l0 x7_1).f1) ((rd_T30 l0 x7_1).f2) ((rd_T30 l0 x7_1).f3.f0) ((rd_T30 l0 x7_1).f3.f1) ((rd_T30 l0 x7_1).f3.f2) ((rd_T30 l0 x7_1).f4) ((rd_T30 l0 x7_1).f5)) = some r := H
                      have A16 := Aside0.mk A160
                      clear A160
                      have H' := Aside0.mk H
                      clear H
                      have hcz17_0 : w6.cell? ⟨gb254, 0, none⟩ = some (.int .i64 0) := (blk_cell BK254.out 0).trans rfl
                      have hcz17_1 : w6.cell? ⟨gb254, 1, none⟩ = some (.int .i64 0) := (blk_cell BK254.out 1).trans rfl
                      have hcz17_2 : w6.cell? ⟨gb254, 2, none⟩ = some (.int .i64 0) := (blk_cell BK254.out 2).trans rfl
                      have hcz17_3 : w6.cell? ⟨gb254, 3, none⟩ = some (.int .i64 0) := (blk_cell BK254.out 3).trans rfl
                      have hcz17_4 : w6.cell? ⟨gb254, 4, none⟩ = some (.int .i64 0) := (blk_cell BK254.out 4).trans rfl
                      have hcz17_5 : w6.cell? ⟨gb254, 5, none⟩ = some (.string (⟨#[]⟩ : ByteArray)) := (blk_cell BK254.out 5).trans rfl
                      have hcz17_6 : w6.cell? ⟨gb254, 6, none⟩ = some (.int .i64 0) := (blk_cell BK254.out 6).trans rfl
                      have hcz17_7 : w6.cell? ⟨gb254, 7, none⟩ = some (.int .i64 0) := (blk_cell BK254.out 7).trans rfl
                      have hfz17_0 := blk_frozen BK254.out 0
                      have hfz17_1 := blk_frozen BK254.out 1
                      have hfz17_2 := blk_frozen BK254.out 2
                      have hfz17_3 := blk_frozen BK254.out 3
                      have hfz17_4 := blk_frozen BK254.out 4
                      have hfz17_5 := blk_frozen BK254.out 5
                      have hfz17_6 := blk_frozen BK254.out 6
                      have hfz17_7 := blk_frozen BK254.out 7
                      go_wp2_with (first | ((with_reducible refine gate_callee (f := 34) rfl ?_); refine goesL_ (some 13) rfl rfl Try.func34 (by kernel_rfl) rfl #[.int .i64 ((rd_T30 l0 x7_1).f0), .int .i64 (-1), .int .i64 4] rfl (by (try simp only [List.map_toArray, List.map_cons, List.map_nil]); first | done | rfl | (simp only [List.length_drop, List.length_take]; rfl)) ?_; (with_reducible refine (impl_within.calls ((rd_T30 l0 x7_1).f0) (-1) 4 true _ A8.out).mono ?_); rintro e w' ⟨rfl, ⟨nd, rfl⟩⟩; refine ⟨_, rfl, ?_⟩) | (go_at_call 34; (with_reducible refine (impl_within.calls ((rd_T30 l0 x7_1).f1) (-1) 4 true _ A10.out).mono ?_); rintro e w' ⟨rfl, ⟨nd, rfl⟩⟩) | (go_at_call 34; (with_reducible refine (impl_within.calls ((rd_T30 l0 x7_1).f2) (-1) 3 true _ A12.out).mono ?_); rintro e w' ⟨rfl, ⟨nd, rfl⟩⟩) | (go_at_call 34; (with_reducible refine (impl_within.calls ((rd_T30 l0 x7_1).f4) 0 4 true _ A14.out).mono ?_); rintro e w' ⟨rfl, ⟨nd, rfl⟩⟩) | (go_at_call 34; (with_reducible refine (impl_within.calls ((rd_T30 l0 x7_1).f5) 0 60 t259 _ A16.out).mono ?_); rintro e w' ⟨rfl, ⟨nd, rfl⟩⟩))
                      go_meet
                      case rel => exact ⟨_, (!t259), (by first | rfl | (simp; done) | (simp [*]; done)), H', ⟨by have := HK1.out; first | omega | exact Nat.le_refl _⟩, ⟨by (with_reducible repeat (first | refine blk_drewN ?_ _ | refine blk_drew ?_ | refine blk_alloc ?_ _)); refine blk_put (cs := #[.int .i64 ((rd_T30 l0 x7_1).f0), .int .i64 ((rd_T30 l0 x7_1).f1), .int .i64 ((rd_T30 l0 x7_1).f2), .int .i64 ((rd_T30 l0 x7_1).f3.f0), .int .i64 ((rd_T30 l0 x7_1).f3.f1), .string ((rd_T30 l0 x7_1).f3.f2), .int .i64 ((rd_T30 l0 x7_1).f4), .int .i64 0]) ?_ 7 _ rfl; (with_reducible repeat (first | refine blk_drewN ?_ _ | refine blk_drew ?_ | refine blk_alloc ?_ _)); refine blk_put (cs := #[.int .i64 ((rd_T30 l0 x7_1).f0), .int .i64 ((rd_T30 l0 x7_1).f1), .int .i64 ((rd_T30 l0 x7_1).f2), .int .i64 ((rd_T30 l0 x7_1).f3.f0), .int .i64 ((rd_T30 l0 x7_1).f3.f1), .string ((rd_T30 l0 x7_1).f3.f2), .int .i64 0, .int .i64 0]) ?_ 6 _ rfl; (with_reducible repeat (first | refine blk_drewN ?_ _ | refine blk_drew ?_ | refine blk_alloc ?_ _)); refine blk_put (cs := #[.int .i64 ((rd_T30 l0 x7_1).f0), .int .i64 ((rd_T30 l0 x7_1).f1), .int .i64 ((rd_T30 l0 x7_1).f2), .int .i64 ((rd_T30 l0 x7_1).f3.f0), .int .i64 ((rd_T30 l0 x7_1).f3.f1), .string (⟨#[]⟩ : ByteArray), .int .i64 0, .int .i64 0]) ?_ 5 _ rfl; (with_reducible repeat (first | refine blk_drewN ?_ _ | refine blk_drew ?_ | refine blk_alloc ?_ _)); refine blk_put (cs := #[.int .i64 ((rd_T30 l0 x7_1).f0), .int .i64 ((rd_T30 l0 x7_1).f1), .int .i64 ((rd_T30 l0 x7_1).f2), .int .i64 ((rd_T30 l0 x7_1).f3.f0), .int .i64 0, .string (⟨#[]⟩ : ByteArray), .int .i64 0, .int .i64 0]) ?_ 4 _ rfl; (with_reducible repeat (first | refine blk_drewN ?_ _ | refine blk_drew ?_ | refine blk_alloc ?_ _)); refine blk_put (cs := #[.int .i64 ((rd_T30 l0 x7_1).f0), .int .i64 ((rd_T30 l0 x7_1).f1), .int .i64 ((rd_T30 l0 x7_1).f2), .int .i64 0, .int .i64 0, .string (⟨#[]⟩ : ByteArray), .int .i64 0, .int .i64 0]) ?_ 3 _ rfl; (with_reducible repeat (first | refine blk_drewN ?_ _ | refine blk_drew ?_ | refine blk_alloc ?_ _)); refine blk_put (cs := #[.int .i64 ((rd_T30 l0 x7_1).f0), .int .i64 ((rd_T30 l0 x7_1).f1), .int .i64 0, .int .i64 0, .int .i64 0, .string (⟨#[]⟩ : ByteArray), .int .i64 0, .int .i64 0]) ?_ 2 _ rfl; (with_reducible repeat (first | refine blk_drewN ?_ _ | refine blk_drew ?_ | refine blk_alloc ?_ _)); refine blk_put (cs := #[.int .i64 ((rd_T30 l0 x7_1).f0), .int .i64 0, .int .i64 0, .int .i64 0, .int .i64 0, .string (⟨#[]⟩ : ByteArray), .int .i64 0, .int .i64 0]) ?_ 1 _ rfl; (with_reducible repeat (first | refine blk_drewN ?_ _ | refine blk_drew ?_ | refine blk_alloc ?_ _)); refine blk_put (cs := #[.int .i64 0, .int .i64 0, .int .i64 0, .int .i64 0, .int .i64 0, .string (⟨#[]⟩ : ByteArray), .int .i64 0, .int .i64 0]) ?_ 0 _ rfl; (with_reducible repeat (first | refine blk_drewN ?_ _ | refine blk_drew ?_ | refine blk_alloc ?_ _)); exact BK254.out⟩, ⟨by repeat (first | (with_reducible first | exact HB.out | apply below_alloc | apply pw_below_drewN | apply below_drew1 | refine below_set ?_ GE254.out) | exact HB.out)⟩⟩
                    · replace c15 := Bool.eq_false_iff.mpr c15
                      subst c15
                      have H1 : (impl_RulesOk.j1 k1 l0 l0 (l0.length : Int) x7_1 true ((rd_T30 l0 x7_1).f0) ((rd_T30 l0 x7_1).f1) ((rd_T30 l0 x7_1).f2) ((rd_T30 l0 x7_1).f3.f0) ((rd_T30 l0 x7_1).f3.f1) ((rd_T30 l0 x7_1).f3.f2) ((rd_T30 l0 x7_1).f4) ((rd_T30 l0 x7_1).f5)) = some r := by rw [if_neg (show ¬ (false = true) by decide)] at H; exact H
                      clear H
                      have H := H1
                      clear H1
                      have H' := Aside0.mk H
                      clear H
                      have hcz18_0 : w6.cell? ⟨gb254, 0, none⟩ = some (.int .i64 0) := (blk_cell BK254.out 0).trans rfl
                      have hcz18_1 : w6.cell? ⟨gb254, 1, none⟩ = some (.int .i64 0) := (blk_cell BK254.out 1).trans rfl
                      have hcz18_2 : w6.cell? ⟨gb254, 2, none⟩ = some (.int .i64 0) := (blk_cell BK254.out 2).trans rfl
                      have hcz18_3 : w6.cell? ⟨gb254, 3, none⟩ = some (.int .i64 0) := (blk_cell BK254.out 3).trans rfl
                      have hcz18_4 : w6.cell? ⟨gb254, 4, none⟩ = some (.int .i64 0) := (blk_cell BK254.out 4).trans rfl
                      have hcz18_5 : w6.cell? ⟨gb254, 5, none⟩ = some (.string (⟨#[]⟩ : ByteArray)) := (blk_cell BK254.out 5).trans rfl
                      have hcz18_6 : w6.cell? ⟨gb254, 6, none⟩ = some (.int .i64 0) := (blk_cell BK254.out 6).trans rfl
                      have hcz18_7 : w6.cell? ⟨gb254, 7, none⟩ = some (.int .i64 0) := (blk_cell BK254.out 7).trans rfl
                      have hfz18_0 := blk_frozen BK254.out 0
                      have hfz18_1 := blk_frozen BK254.out 1
                      have hfz18_2 := blk_frozen BK254.out 2
                      have hfz18_3 := blk_frozen BK254.out 3
                      have hfz18_4 := blk_frozen BK254.out 4
                      have hfz18_5 := blk_frozen BK254.out 5
                      have hfz18_6 := blk_frozen BK254.out 6
                      have hfz18_7 := blk_frozen BK254.out 7
                      go_wp2_with (first | ((with_reducible refine gate_callee (f := 34) rfl ?_); refine goesL_ (some 13) rfl rfl Try.func34 (by kernel_rfl) rfl #[.int .i64 ((rd_T30 l0 x7_1).f0), .int .i64 (-1), .int .i64 4] rfl (by (try simp only [List.map_toArray, List.map_cons, List.map_nil]); first | done | rfl | (simp only [List.length_drop, List.length_take]; rfl)) ?_; (with_reducible refine (impl_within.calls ((rd_T30 l0 x7_1).f0) (-1) 4 true _ A8.out).mono ?_); rintro e w' ⟨rfl, ⟨nd, rfl⟩⟩; refine ⟨_, rfl, ?_⟩) | (go_at_call 34; (with_reducible refine (impl_within.calls ((rd_T30 l0 x7_1).f1) (-1) 4 true _ A10.out).mono ?_); rintro e w' ⟨rfl, ⟨nd, rfl⟩⟩) | (go_at_call 34; (with_reducible refine (impl_within.calls ((rd_T30 l0 x7_1).f2) (-1) 3 true _ A12.out).mono ?_); rintro e w' ⟨rfl, ⟨nd, rfl⟩⟩) | (go_at_call 34; (with_reducible refine (impl_within.calls ((rd_T30 l0 x7_1).f4) 0 4 false _ A14.out).mono ?_); rintro e w' ⟨rfl, ⟨nd, rfl⟩⟩))
                      go_meet
                      case rel => exact ⟨_, (true), (by first | rfl | (simp; done) | (simp [*]; done)), H', ⟨by have := HK1.out; first | omega | exact Nat.le_refl _⟩, ⟨by (with_reducible repeat (first | refine blk_drewN ?_ _ | refine blk_drew ?_ | refine blk_alloc ?_ _)); refine blk_put (cs := #[.int .i64 ((rd_T30 l0 x7_1).f0), .int .i64 ((rd_T30 l0 x7_1).f1), .int .i64 ((rd_T30 l0 x7_1).f2), .int .i64 ((rd_T30 l0 x7_1).f3.f0), .int .i64 ((rd_T30 l0 x7_1).f3.f1), .string ((rd_T30 l0 x7_1).f3.f2), .int .i64 ((rd_T30 l0 x7_1).f4), .int .i64 0]) ?_ 7 _ rfl; (with_reducible repeat (first | refine blk_drewN ?_ _ | refine blk_drew ?_ | refine blk_alloc ?_ _)); refine blk_put (cs := #[.int .i64 ((rd_T30 l0 x7_1).f0), .int .i64 ((rd_T30 l0 x7_1).f1), .int .i64 ((rd_T30 l0 x7_1).f2), .int .i64 ((rd_T30 l0 x7_1).f3.f0), .int .i64 ((rd_T30 l0 x7_1).f3.f1), .string ((rd_T30 l0 x7_1).f3.f2), .int .i64 0, .int .i64 0]) ?_ 6 _ rfl; (with_reducible repeat (first | refine blk_drewN ?_ _ | refine blk_drew ?_ | refine blk_alloc ?_ _)); refine blk_put (cs := #[.int .i64 ((rd_T30 l0 x7_1).f0), .int .i64 ((rd_T30 l0 x7_1).f1), .int .i64 ((rd_T30 l0 x7_1).f2), .int .i64 ((rd_T30 l0 x7_1).f3.f0), .int .i64 ((rd_T30 l0 x7_1).f3.f1), .string (⟨#[]⟩ : ByteArray), .int .i64 0, .int .i64 0]) ?_ 5 _ rfl; (with_reducible repeat (first | refine blk_drewN ?_ _ | refine blk_drew ?_ | refine blk_alloc ?_ _)); refine blk_put (cs := #[.int .i64 ((rd_T30 l0 x7_1).f0), .int .i64 ((rd_T30 l0 x7_1).f1), .int .i64 ((rd_T30 l0 x7_1).f2), .int .i64 ((rd_T30 l0 x7_1).f3.f0), .int .i64 0, .string (⟨#[]⟩ : ByteArray), .int .i64 0, .int .i64 0]) ?_ 4 _ rfl; (with_reducible repeat (first | refine blk_drewN ?_ _ | refine blk_drew ?_ | refine blk_alloc ?_ _)); refine blk_put (cs := #[.int .i64 ((rd_T30 l0 x7_1).f0), .int .i64 ((rd_T30 l0 x7_1).f1), .int .i64 ((rd_T30 l0 x7_1).f2), .int .i64 0, .int .i64 0, .string (⟨#[]⟩ : ByteArray), .int .i64 0, .int .i64 0]) ?_ 3 _ rfl; (with_reducible repeat (first | refine blk_drewN ?_ _ | refine blk_drew ?_ | refine blk_alloc ?_ _)); refine blk_put (cs := #[.int .i64 ((rd_T30 l0 x7_1).f0), .int .i64 ((rd_T30 l0 x7_1).f1), .int .i64 0, .int .i64 0, .int .i64 0, .string (⟨#[]⟩ : ByteArray), .int .i64 0, .int .i64 0]) ?_ 2 _ rfl; (with_reducible repeat (first | refine blk_drewN ?_ _ | refine blk_drew ?_ | refine blk_alloc ?_ _)); refine blk_put (cs := #[.int .i64 ((rd_T30 l0 x7_1).f0), .int .i64 0, .int .i64 0, .int .i64 0, .int .i64 0, .string (⟨#[]⟩ : ByteArray), .int .i64 0, .int .i64 0]) ?_ 1 _ rfl; (with_reducible repeat (first | refine blk_drewN ?_ _ | refine blk_drew ?_ | refine blk_alloc ?_ _)); refine blk_put (cs := #[.int .i64 0, .int .i64 0, .int .i64 0, .int .i64 0, .int .i64 0, .string (⟨#[]⟩ : ByteArray), .int .i64 0, .int .i64 0]) ?_ 0 _ rfl; (with_reducible repeat (first | refine blk_drewN ?_ _ | refine blk_drew ?_ | refine blk_alloc ?_ _)); exact BK254.out⟩, ⟨by repeat (first | (with_reducible first | exact HB.out | apply below_alloc | apply pw_below_drewN | apply below_drew1 | refine below_set ?_ GE254.out) | exact HB.out)⟩⟩
                  · replace c13 := Bool.eq_false_iff.mpr c13
                    subst c13
                    have H1 : (impl_RulesOk.j1 k1 l0 l0 (l0.length : Int) x7_1 true ((rd_T30 l0 x7_1).f0) ((rd_T30 l0 x7_1).f1) ((rd_T30 l0 x7_1).f2) ((rd_T30 l0 x7_1).f3.f0) ((rd_T30 l0 x7_1).f3.f1) ((rd_T30 l0 x7_1).f3.f2) ((rd_T30 l0 x7_1).f4) ((rd_T30 l0 x7_1).f5)) = some r := by rw [if_neg (show ¬ (false = true) by decide)] at H; exact H
                    clear H
                    have H := H1
                    clear H1
                    have H' := Aside0.mk H
                    clear H
                    have hcz19_0 : w6.cell? ⟨gb254, 0, none⟩ = some (.int .i64 0) := (blk_cell BK254.out 0).trans rfl
                    have hcz19_1 : w6.cell? ⟨gb254, 1, none⟩ = some (.int .i64 0) := (blk_cell BK254.out 1).trans rfl
                    have hcz19_2 : w6.cell? ⟨gb254, 2, none⟩ = some (.int .i64 0) := (blk_cell BK254.out 2).trans rfl
                    have hcz19_3 : w6.cell? ⟨gb254, 3, none⟩ = some (.int .i64 0) := (blk_cell BK254.out 3).trans rfl
                    have hcz19_4 : w6.cell? ⟨gb254, 4, none⟩ = some (.int .i64 0) := (blk_cell BK254.out 4).trans rfl
                    have hcz19_5 : w6.cell? ⟨gb254, 5, none⟩ = some (.string (⟨#[]⟩ : ByteArray)) := (blk_cell BK254.out 5).trans rfl
                    have hcz19_6 : w6.cell? ⟨gb254, 6, none⟩ = some (.int .i64 0) := (blk_cell BK254.out 6).trans rfl
                    have hcz19_7 : w6.cell? ⟨gb254, 7, none⟩ = some (.int .i64 0) := (blk_cell BK254.out 7).trans rfl
                    have hfz19_0 := blk_frozen BK254.out 0
                    have hfz19_1 := blk_frozen BK254.out 1
                    have hfz19_2 := blk_frozen BK254.out 2
                    have hfz19_3 := blk_frozen BK254.out 3
                    have hfz19_4 := blk_frozen BK254.out 4
                    have hfz19_5 := blk_frozen BK254.out 5
                    have hfz19_6 := blk_frozen BK254.out 6
                    have hfz19_7 := blk_frozen BK254.out 7
                    go_wp2_with (first | ((with_reducible refine gate_callee (f := 34) rfl ?_); refine goesL_ (some 13) rfl rfl Try.func34 (by kernel_rfl) rfl #[.int .i64 ((rd_T30 l0 x7_1).f0), .int .i64 (-1), .int .i64 4] rfl (by (try simp only [List.map_toArray, List.map_cons, List.map_nil]); first | done | rfl | (simp only [List.length_drop, List.length_take]; rfl)) ?_; (with_reducible refine (impl_within.calls ((rd_T30 l0 x7_1).f0) (-1) 4 true _ A8.out).mono ?_); rintro e w' ⟨rfl, ⟨nd, rfl⟩⟩; refine ⟨_, rfl, ?_⟩) | (go_at_call 34; (with_reducible refine (impl_within.calls ((rd_T30 l0 x7_1).f1) (-1) 4 true _ A10.out).mono ?_); rintro e w' ⟨rfl, ⟨nd, rfl⟩⟩) | (go_at_call 34; (with_reducible refine (impl_within.calls ((rd_T30 l0 x7_1).f2) (-1) 3 false _ A12.out).mono ?_); rintro e w' ⟨rfl, ⟨nd, rfl⟩⟩))
                    go_meet
                    case rel => exact ⟨_, (true), (by first | rfl | (simp; done) | (simp [*]; done)), H', ⟨by have := HK1.out; first | omega | exact Nat.le_refl _⟩, ⟨by (with_reducible repeat (first | refine blk_drewN ?_ _ | refine blk_drew ?_ | refine blk_alloc ?_ _)); refine blk_put (cs := #[.int .i64 ((rd_T30 l0 x7_1).f0), .int .i64 ((rd_T30 l0 x7_1).f1), .int .i64 ((rd_T30 l0 x7_1).f2), .int .i64 ((rd_T30 l0 x7_1).f3.f0), .int .i64 ((rd_T30 l0 x7_1).f3.f1), .string ((rd_T30 l0 x7_1).f3.f2), .int .i64 ((rd_T30 l0 x7_1).f4), .int .i64 0]) ?_ 7 _ rfl; (with_reducible repeat (first | refine blk_drewN ?_ _ | refine blk_drew ?_ | refine blk_alloc ?_ _)); refine blk_put (cs := #[.int .i64 ((rd_T30 l0 x7_1).f0), .int .i64 ((rd_T30 l0 x7_1).f1), .int .i64 ((rd_T30 l0 x7_1).f2), .int .i64 ((rd_T30 l0 x7_1).f3.f0), .int .i64 ((rd_T30 l0 x7_1).f3.f1), .string ((rd_T30 l0 x7_1).f3.f2), .int .i64 0, .int .i64 0]) ?_ 6 _ rfl; (with_reducible repeat (first | refine blk_drewN ?_ _ | refine blk_drew ?_ | refine blk_alloc ?_ _)); refine blk_put (cs := #[.int .i64 ((rd_T30 l0 x7_1).f0), .int .i64 ((rd_T30 l0 x7_1).f1), .int .i64 ((rd_T30 l0 x7_1).f2), .int .i64 ((rd_T30 l0 x7_1).f3.f0), .int .i64 ((rd_T30 l0 x7_1).f3.f1), .string (⟨#[]⟩ : ByteArray), .int .i64 0, .int .i64 0]) ?_ 5 _ rfl; (with_reducible repeat (first | refine blk_drewN ?_ _ | refine blk_drew ?_ | refine blk_alloc ?_ _)); refine blk_put (cs := #[.int .i64 ((rd_T30 l0 x7_1).f0), .int .i64 ((rd_T30 l0 x7_1).f1), .int .i64 ((rd_T30 l0 x7_1).f2), .int .i64 ((rd_T30 l0 x7_1).f3.f0), .int .i64 0, .string (⟨#[]⟩ : ByteArray), .int .i64 0, .int .i64 0]) ?_ 4 _ rfl; (with_reducible repeat (first | refine blk_drewN ?_ _ | refine blk_drew ?_ | refine blk_alloc ?_ _)); refine blk_put (cs := #[.int .i64 ((rd_T30 l0 x7_1).f0), .int .i64 ((rd_T30 l0 x7_1).f1), .int .i64 ((rd_T30 l0 x7_1).f2), .int .i64 0, .int .i64 0, .string (⟨#[]⟩ : ByteArray), .int .i64 0, .int .i64 0]) ?_ 3 _ rfl; (with_reducible repeat (first | refine blk_drewN ?_ _ | refine blk_drew ?_ | refine blk_alloc ?_ _)); refine blk_put (cs := #[.int .i64 ((rd_T30 l0 x7_1).f0), .int .i64 ((rd_T30 l0 x7_1).f1), .int .i64 0, .int .i64 0, .int .i64 0, .string (⟨#[]⟩ : ByteArray), .int .i64 0, .int .i64 0]) ?_ 2 _ rfl; (with_reducible repeat (first | refine blk_drewN ?_ _ | refine blk_drew ?_ | refine blk_alloc ?_ _)); refine blk_put (cs := #[.int .i64 ((rd_T30 l0 x7_1).f0), .int .i64 0, .int .i64 0, .int .i64 0, .int .i64 0, .string (⟨#[]⟩ : ByteArray), .int .i64 0, .int .i64 0]) ?_ 1 _ rfl; (with_reducible repeat (first | refine blk_drewN ?_ _ | refine blk_drew ?_ | refine blk_alloc ?_ _)); refine blk_put (cs := #[.int .i64 0, .int .i64 0, .int .i64 0, .int .i64 0, .int .i64 0, .string (⟨#[]⟩ : ByteArray), .int .i64 0, .int .i64 0]) ?_ 0 _ rfl; (with_reducible repeat (first | refine blk_drewN ?_ _ | refine blk_drew ?_ | refine blk_alloc ?_ _)); exact BK254.out⟩, ⟨by repeat (first | (with_reducible first | exact HB.out | apply below_alloc | apply pw_below_drewN | apply below_drew1 | refine below_set ?_ GE254.out) | exact HB.out)⟩⟩
                · replace c11 := Bool.eq_false_iff.mpr c11
                  subst c11
                  have H1 : (impl_RulesOk.j1 k1 l0 l0 (l0.length : Int) x7_1 true ((rd_T30 l0 x7_1).f0) ((rd_T30 l0 x7_1).f1) ((rd_T30 l0 x7_1).f2) ((rd_T30 l0 x7_1).f3.f0) ((rd_T30 l0 x7_1).f3.f1) ((rd_T30 l0 x7_1).f3.f2) ((rd_T30 l0 x7_1).f4) ((rd_T30 l0 x7_1).f5)) = some r := by rw [if_neg (show ¬ (false = true) by decide)] at H; exact H
                  clear H
                  have H := H1
                  clear H1
                  have H' := Aside0.mk H
                  clear H
                  have hcz20_0 : w6.cell? ⟨gb254, 0, none⟩ = some (.int .i64 0) := (blk_cell BK254.out 0).trans rfl
                  have hcz20_1 : w6.cell? ⟨gb254, 1, none⟩ = some (.int .i64 0) := (blk_cell BK254.out 1).trans rfl
                  have hcz20_2 : w6.cell? ⟨gb254, 2, none⟩ = some (.int .i64 0) := (blk_cell BK254.out 2).trans rfl
                  have hcz20_3 : w6.cell? ⟨gb254, 3, none⟩ = some (.int .i64 0) := (blk_cell BK254.out 3).trans rfl
                  have hcz20_4 : w6.cell? ⟨gb254, 4, none⟩ = some (.int .i64 0) := (blk_cell BK254.out 4).trans rfl
                  have hcz20_5 : w6.cell? ⟨gb254, 5, none⟩ = some (.string (⟨#[]⟩ : ByteArray)) := (blk_cell BK254.out 5).trans rfl
                  have hcz20_6 : w6.cell? ⟨gb254, 6, none⟩ = some (.int .i64 0) := (blk_cell BK254.out 6).trans rfl
                  have hcz20_7 : w6.cell? ⟨gb254, 7, none⟩ = some (.int .i64 0) := (blk_cell BK254.out 7).trans rfl
                  have hfz20_0 := blk_frozen BK254.out 0
                  have hfz20_1 := blk_frozen BK254.out 1
                  have hfz20_2 := blk_frozen BK254.out 2
                  have hfz20_3 := blk_frozen BK254.out 3
                  have hfz20_4 := blk_frozen BK254.out 4
                  have hfz20_5 := blk_frozen BK254.out 5
                  have hfz20_6 := blk_frozen BK254.out 6
                  have hfz20_7 := blk_frozen BK254.out 7
                  go_wp2_with (first | ((with_reducible refine gate_callee (f := 34) rfl ?_); refine goesL_ (some 13) rfl rfl Try.func34 (by kernel_rfl) rfl #[.int .i64 ((rd_T30 l0 x7_1).f0), .int .i64 (-1), .int .i64 4] rfl (by (try simp only [List.map_toArray, List.map_cons, List.map_nil]); first | done | rfl | (simp only [List.length_drop, List.length_take]; rfl)) ?_; (with_reducible refine (impl_within.calls ((rd_T30 l0 x7_1).f0) (-1) 4 true _ A8.out).mono ?_); rintro e w' ⟨rfl, ⟨nd, rfl⟩⟩; refine ⟨_, rfl, ?_⟩) | (go_at_call 34; (with_reducible refine (impl_within.calls ((rd_T30 l0 x7_1).f1) (-1) 4 false _ A10.out).mono ?_); rintro e w' ⟨rfl, ⟨nd, rfl⟩⟩))
                  go_meet
                  case rel => exact ⟨_, (true), (by first | rfl | (simp; done) | (simp [*]; done)), H', ⟨by have := HK1.out; first | omega | exact Nat.le_refl _⟩, ⟨by (with_reducible repeat (first | refine blk_drewN ?_ _ | refine blk_drew ?_ | refine blk_alloc ?_ _)); refine blk_put (cs := #[.int .i64 ((rd_T30 l0 x7_1).f0), .int .i64 ((rd_T30 l0 x7_1).f1), .int .i64 ((rd_T30 l0 x7_1).f2), .int .i64 ((rd_T30 l0 x7_1).f3.f0), .int .i64 ((rd_T30 l0 x7_1).f3.f1), .string ((rd_T30 l0 x7_1).f3.f2), .int .i64 ((rd_T30 l0 x7_1).f4), .int .i64 0]) ?_ 7 _ rfl; (with_reducible repeat (first | refine blk_drewN ?_ _ | refine blk_drew ?_ | refine blk_alloc ?_ _)); refine blk_put (cs := #[.int .i64 ((rd_T30 l0 x7_1).f0), .int .i64 ((rd_T30 l0 x7_1).f1), .int .i64 ((rd_T30 l0 x7_1).f2), .int .i64 ((rd_T30 l0 x7_1).f3.f0), .int .i64 ((rd_T30 l0 x7_1).f3.f1), .string ((rd_T30 l0 x7_1).f3.f2), .int .i64 0, .int .i64 0]) ?_ 6 _ rfl; (with_reducible repeat (first | refine blk_drewN ?_ _ | refine blk_drew ?_ | refine blk_alloc ?_ _)); refine blk_put (cs := #[.int .i64 ((rd_T30 l0 x7_1).f0), .int .i64 ((rd_T30 l0 x7_1).f1), .int .i64 ((rd_T30 l0 x7_1).f2), .int .i64 ((rd_T30 l0 x7_1).f3.f0), .int .i64 ((rd_T30 l0 x7_1).f3.f1), .string (⟨#[]⟩ : ByteArray), .int .i64 0, .int .i64 0]) ?_ 5 _ rfl; (with_reducible repeat (first | refine blk_drewN ?_ _ | refine blk_drew ?_ | refine blk_alloc ?_ _)); refine blk_put (cs := #[.int .i64 ((rd_T30 l0 x7_1).f0), .int .i64 ((rd_T30 l0 x7_1).f1), .int .i64 ((rd_T30 l0 x7_1).f2), .int .i64 ((rd_T30 l0 x7_1).f3.f0), .int .i64 0, .string (⟨#[]⟩ : ByteArray), .int .i64 0, .int .i64 0]) ?_ 4 _ rfl; (with_reducible repeat (first | refine blk_drewN ?_ _ | refine blk_drew ?_ | refine blk_alloc ?_ _)); refine blk_put (cs := #[.int .i64 ((rd_T30 l0 x7_1).f0), .int .i64 ((rd_T30 l0 x7_1).f1), .int .i64 ((rd_T30 l0 x7_1).f2), .int .i64 0, .int .i64 0, .string (⟨#[]⟩ : ByteArray), .int .i64 0, .int .i64 0]) ?_ 3 _ rfl; (with_reducible repeat (first | refine blk_drewN ?_ _ | refine blk_drew ?_ | refine blk_alloc ?_ _)); refine blk_put (cs := #[.int .i64 ((rd_T30 l0 x7_1).f0), .int .i64 ((rd_T30 l0 x7_1).f1), .int .i64 0, .int .i64 0, .int .i64 0, .string (⟨#[]⟩ : ByteArray), .int .i64 0, .int .i64 0]) ?_ 2 _ rfl; (with_reducible repeat (first | refine blk_drewN ?_ _ | refine blk_drew ?_ | refine blk_alloc ?_ _)); refine blk_put (cs := #[.int .i64 ((rd_T30 l0 x7_1).f0), .int .i64 0, .int .i64 0, .int .i64 0, .int .i64 0, .string (⟨#[]⟩ : ByteArray), .int .i64 0, .int .i64 0]) ?_ 1 _ rfl; (with_reducible repeat (first | refine blk_drewN ?_ _ | refine blk_drew ?_ | refine blk_alloc ?_ _)); refine blk_put (cs := #[.int .i64 0, .int .i64 0, .int .i64 0, .int .i64 0, .int .i64 0, .string (⟨#[]⟩ : ByteArray), .int .i64 0, .int .i64 0]) ?_ 0 _ rfl; (with_reducible repeat (first | refine blk_drewN ?_ _ | refine blk_drew ?_ | refine blk_alloc ?_ _)); exact BK254.out⟩, ⟨by repeat (first | (with_reducible first | exact HB.out | apply below_alloc | apply pw_below_drewN | apply below_drew1 | refine below_set ?_ GE254.out) | exact HB.out)⟩⟩
              · replace c9 := Bool.eq_false_iff.mpr c9
                subst c9
                have H1 : (impl_RulesOk.j1 k1 l0 l0 (l0.length : Int) x7_1 true ((rd_T30 l0 x7_1).f0) ((rd_T30 l0 x7_1).f1) ((rd_T30 l0 x7_1).f2) ((rd_T30 l0 x7_1).f3.f0) ((rd_T30 l0 x7_1).f3.f1) ((rd_T30 l0 x7_1).f3.f2) ((rd_T30 l0 x7_1).f4) ((rd_T30 l0 x7_1).f5)) = some r := by rw [if_neg (show ¬ (false = true) by decide)] at H; exact H
                clear H
                have H := H1
                clear H1
                have H' := Aside0.mk H
                clear H
                have hcz21_0 : w6.cell? ⟨gb254, 0, none⟩ = some (.int .i64 0) := (blk_cell BK254.out 0).trans rfl
                have hcz21_1 : w6.cell? ⟨gb254, 1, none⟩ = some (.int .i64 0) := (blk_cell BK254.out 1).trans rfl
                have hcz21_2 : w6.cell? ⟨gb254, 2, none⟩ = some (.int .i64 0) := (blk_cell BK254.out 2).trans rfl
                have hcz21_3 : w6.cell? ⟨gb254, 3, none⟩ = some (.int .i64 0) := (blk_cell BK254.out 3).trans rfl
                have hcz21_4 : w6.cell? ⟨gb254, 4, none⟩ = some (.int .i64 0) := (blk_cell BK254.out 4).trans rfl
                have hcz21_5 : w6.cell? ⟨gb254, 5, none⟩ = some (.string (⟨#[]⟩ : ByteArray)) := (blk_cell BK254.out 5).trans rfl
                have hcz21_6 : w6.cell? ⟨gb254, 6, none⟩ = some (.int .i64 0) := (blk_cell BK254.out 6).trans rfl
                have hcz21_7 : w6.cell? ⟨gb254, 7, none⟩ = some (.int .i64 0) := (blk_cell BK254.out 7).trans rfl
                have hfz21_0 := blk_frozen BK254.out 0
                have hfz21_1 := blk_frozen BK254.out 1
                have hfz21_2 := blk_frozen BK254.out 2
                have hfz21_3 := blk_frozen BK254.out 3
                have hfz21_4 := blk_frozen BK254.out 4
                have hfz21_5 := blk_frozen BK254.out 5
                have hfz21_6 := blk_frozen BK254.out 6
                have hfz21_7 := blk_frozen BK254.out 7
                go_wp2_with (first | ((with_reducible refine gate_callee (f := 34) rfl ?_); refine goesL_ (some 13) rfl rfl Try.func34 (by kernel_rfl) rfl #[.int .i64 ((rd_T30 l0 x7_1).f0), .int .i64 (-1), .int .i64 4] rfl (by (try simp only [List.map_toArray, List.map_cons, List.map_nil]); first | done | rfl | (simp only [List.length_drop, List.length_take]; rfl)) ?_; (with_reducible refine (impl_within.calls ((rd_T30 l0 x7_1).f0) (-1) 4 false _ A8.out).mono ?_); rintro e w' ⟨rfl, ⟨nd, rfl⟩⟩; refine ⟨_, rfl, ?_⟩))
                go_meet
                case rel => exact ⟨_, (true), (by first | rfl | (simp; done) | (simp [*]; done)), H', ⟨by have := HK1.out; first | omega | exact Nat.le_refl _⟩, ⟨by (with_reducible repeat (first | refine blk_drewN ?_ _ | refine blk_drew ?_ | refine blk_alloc ?_ _)); refine blk_put (cs := #[.int .i64 ((rd_T30 l0 x7_1).f0), .int .i64 ((rd_T30 l0 x7_1).f1), .int .i64 ((rd_T30 l0 x7_1).f2), .int .i64 ((rd_T30 l0 x7_1).f3.f0), .int .i64 ((rd_T30 l0 x7_1).f3.f1), .string ((rd_T30 l0 x7_1).f3.f2), .int .i64 ((rd_T30 l0 x7_1).f4), .int .i64 0]) ?_ 7 _ rfl; (with_reducible repeat (first | refine blk_drewN ?_ _ | refine blk_drew ?_ | refine blk_alloc ?_ _)); refine blk_put (cs := #[.int .i64 ((rd_T30 l0 x7_1).f0), .int .i64 ((rd_T30 l0 x7_1).f1), .int .i64 ((rd_T30 l0 x7_1).f2), .int .i64 ((rd_T30 l0 x7_1).f3.f0), .int .i64 ((rd_T30 l0 x7_1).f3.f1), .string ((rd_T30 l0 x7_1).f3.f2), .int .i64 0, .int .i64 0]) ?_ 6 _ rfl; (with_reducible repeat (first | refine blk_drewN ?_ _ | refine blk_drew ?_ | refine blk_alloc ?_ _)); refine blk_put (cs := #[.int .i64 ((rd_T30 l0 x7_1).f0), .int .i64 ((rd_T30 l0 x7_1).f1), .int .i64 ((rd_T30 l0 x7_1).f2), .int .i64 ((rd_T30 l0 x7_1).f3.f0), .int .i64 ((rd_T30 l0 x7_1).f3.f1), .string (⟨#[]⟩ : ByteArray), .int .i64 0, .int .i64 0]) ?_ 5 _ rfl; (with_reducible repeat (first | refine blk_drewN ?_ _ | refine blk_drew ?_ | refine blk_alloc ?_ _)); refine blk_put (cs := #[.int .i64 ((rd_T30 l0 x7_1).f0), .int .i64 ((rd_T30 l0 x7_1).f1), .int .i64 ((rd_T30 l0 x7_1).f2), .int .i64 ((rd_T30 l0 x7_1).f3.f0), .int .i64 0, .string (⟨#[]⟩ : ByteArray), .int .i64 0, .int .i64 0]) ?_ 4 _ rfl; (with_reducible repeat (first | refine blk_drewN ?_ _ | refine blk_drew ?_ | refine blk_alloc ?_ _)); refine blk_put (cs := #[.int .i64 ((rd_T30 l0 x7_1).f0), .int .i64 ((rd_T30 l0 x7_1).f1), .int .i64 ((rd_T30 l0 x7_1).f2), .int .i64 0, .int .i64 0, .string (⟨#[]⟩ : ByteArray), .int .i64 0, .int .i64 0]) ?_ 3 _ rfl; (with_reducible repeat (first | refine blk_drewN ?_ _ | refine blk_drew ?_ | refine blk_alloc ?_ _)); refine blk_put (cs := #[.int .i64 ((rd_T30 l0 x7_1).f0), .int .i64 ((rd_T30 l0 x7_1).f1), .int .i64 0, .int .i64 0, .int .i64 0, .string (⟨#[]⟩ : ByteArray), .int .i64 0, .int .i64 0]) ?_ 2 _ rfl; (with_reducible repeat (first | refine blk_drewN ?_ _ | refine blk_drew ?_ | refine blk_alloc ?_ _)); refine blk_put (cs := #[.int .i64 ((rd_T30 l0 x7_1).f0), .int .i64 0, .int .i64 0, .int .i64 0, .int .i64 0, .string (⟨#[]⟩ : ByteArray), .int .i64 0, .int .i64 0]) ?_ 1 _ rfl; (with_reducible repeat (first | refine blk_drewN ?_ _ | refine blk_drew ?_ | refine blk_alloc ?_ _)); refine blk_put (cs := #[.int .i64 0, .int .i64 0, .int .i64 0, .int .i64 0, .int .i64 0, .string (⟨#[]⟩ : ByteArray), .int .i64 0, .int .i64 0]) ?_ 0 _ rfl; (with_reducible repeat (first | refine blk_drewN ?_ _ | refine blk_drew ?_ | refine blk_alloc ?_ _)); exact BK254.out⟩, ⟨by repeat (first | (with_reducible first | exact HB.out | apply below_alloc | apply pw_below_drewN | apply below_drew1 | refine below_set ?_ GE254.out) | exact HB.out)⟩⟩
            case rest =>
              clear HC5
              try clear c1
              try clear c2
              try clear c2b0
              try clear p2
              try clear q2
              try clear hx2
              try clear c3
              try clear c3b0
              try clear c4
              try clear c4b0
              try clear c9
              try clear c10
              try clear c11
              try clear c13
              try clear c15
              try clear hcz17_0
              try clear hcz17_1
              try clear hcz17_2
              try clear hcz17_3
              try clear hcz17_4
              try clear hcz17_5
              try clear hcz17_6
              try clear hcz17_7
              try clear hcz18_0
              try clear hcz18_1
              try clear hcz18_2
              try clear hcz18_3
              try clear hcz18_4
              try clear hcz18_5
              try clear hcz18_6
              try clear hcz18_7
              try clear hcz19_0
              try clear hcz19_1
              try clear hcz19_2
              try clear hcz19_3
              try clear hcz19_4
              try clear hcz19_5
              try clear hcz19_6
              try clear hcz19_7
              try clear hcz20_0
              try clear hcz20_1
              try clear hcz20_2
              try clear hcz20_3
              try clear hcz20_4
              try clear hcz20_5
              try clear hcz20_6
              try clear hcz20_7
              try clear hcz21_0
              try clear hcz21_1
              try clear hcz21_2
              try clear hcz21_3
              try clear hcz21_4
              try clear hcz21_5
              try clear hcz21_6
              try clear hcz21_7
              try clear hcz7_0
              try clear hcz7_1
              try clear hcz7_2
              try clear hcz7_3
              try clear hcz7_4
              try clear hcz7_5
              try clear hcz7_6
              try clear hcz7_7
              try clear hfz17_0
              try clear hfz17_1
              try clear hfz17_2
              try clear hfz17_3
              try clear hfz17_4
              try clear hfz17_5
              try clear hfz17_6
              try clear hfz17_7
              try clear hfz18_0
              try clear hfz18_1
              try clear hfz18_2
              try clear hfz18_3
              try clear hfz18_4
              try clear hfz18_5
              try clear hfz18_6
              try clear hfz18_7
              try clear hfz19_0
              try clear hfz19_1
              try clear hfz19_2
              try clear hfz19_3
              try clear hfz19_4
              try clear hfz19_5
              try clear hfz19_6
              try clear hfz19_7
              try clear hfz20_0
              try clear hfz20_1
              try clear hfz20_2
              try clear hfz20_3
              try clear hfz20_4
              try clear hfz20_5
              try clear hfz20_6
              try clear hfz20_7
              try clear hfz21_0
              try clear hfz21_1
              try clear hfz21_2
              try clear hfz21_3
              try clear hfz21_4
              try clear hfz21_5
              try clear hfz21_6
              try clear hfz21_7
              try clear hfz7_0
              try clear hfz7_1
              try clear hfz7_2
              try clear hfz7_3
              try clear hfz7_4
              try clear hfz7_5
              try clear hfz7_6
              try clear hfz7_7
              try clear hx253_0
              try clear hx253_1
              try clear hx253_2
              try clear hx253_3
              try clear hx253_4
              try clear hx253_5
              try clear hx253_6
              try clear hx253_7
              try clear p253
              try clear q253
              obtain ⟨kq, x38_4, rfl, HA, HJ4, BK254, HB⟩ := hcut
              cases kq with
              | zero => exact absurd HA.out (by simp [impl_RulesOk.j1])
              | succ kj4 =>
                have H := HA.out
                clear HA
                simp only [impl_RulesOk.j1] at H
                by_cases c22 : x38_4 = true
                · subst c22
                  have H1 : (some false) = some r := by rw [if_pos rfl] at H; exact H
                  clear H
                  have H := H1
                  clear H1
                  obtain rfl := Option.some.inj H
                  go_wp2
                  go_ret
                  exact ⟨by first | rfl | (simp [errW_none, errW_some] <;> rfl) | (simp [*, errW_none, errW_some] <;> rfl), by repeat (first | (with_reducible first | exact HB.out | apply below_alloc | apply pw_below_drewN | apply below_drew1 | refine below_set ?_ GE254.out) | exact HB.out)⟩
                · replace c22 := Bool.eq_false_iff.mpr c22
                  subst c22
                  have H1 : (if ((rd_T30 l0 x7_1).f2) = (-1) then (if (!(((rd_T30 l0 x7_1).f3.f0) == 0) || (!(((rd_T30 l0 x7_1).f3.f1) == 0) || (!(((rd_T30 l0 x7_1).f3.f2).toList == ([] : List UInt8))))) = true then (some false) else ((impl_ValOk.f kj4 ((rd_T30 l0 x7_1).f3.f0) ((rd_T30 l0 x7_1).f3.f1) ((rd_T30 l0 x7_1).f3.f2)).bind fun t260 => (if t260 = true then (impl_RulesOk.l0 kj4 l0 l0 (l0.length : Int) (wrap64 (x7_1 + 1))) else (some false)))) else ((impl_ValOk.f kj4 ((rd_T30 l0 x7_1).f3.f0) ((rd_T30 l0 x7_1).f3.f1) ((rd_T30 l0 x7_1).f3.f2)).bind fun t261 => (if t261 = true then (impl_RulesOk.l0 kj4 l0 l0 (l0.length : Int) (wrap64 (x7_1 + 1))) else (some false)))) = some r := by rw [if_neg (show ¬ (false = true) by decide)] at H; exact H
                  clear H
                  have H := H1
                  clear H1
                  by_cases c23 : ((rd_T30 l0 x7_1).f2) = (-1)
                  · rw [if_pos c23] at H
                    have c23b0 : (((rd_T30 l0 x7_1).f2) == (-1)) = true := beq_iff_eq.mpr c23
                    have c23b1 : (((rd_T30 l0 x7_1).f2) != (-1)) = false := bne_eq_false_iff_eq.mpr c23
                    clear c23
                    by_cases c24 : (!(((rd_T30 l0 x7_1).f3.f0) == 0) || (!(((rd_T30 l0 x7_1).f3.f1) == 0) || (!(((rd_T30 l0 x7_1).f3.f2).toList == ([] : List UInt8))))) = true
                    · rw [if_pos c24] at H
                      have c24b0 : (!(((rd_T30 l0 x7_1).f3.f0) == 0) || (!(((rd_T30 l0 x7_1).f3.f1) == 0) || (!(((rd_T30 l0 x7_1).f3.f2).toList == ([] : List UInt8))))) = true := c24
                      have c24b0e : (!(((rd_T30 l0 x7_1).f3.f0) == 0) || (!(((rd_T30 l0 x7_1).f3.f1) == 0) || (!((rd_T30 l0 x7_1).f3.f2).toList.isEmpty))) = true := by have hq_ := c24b0; simp only [show (((rd_T30 l0 x7_1).f3.f2).toList == ([] : List UInt8)) = ((rd_T30 l0 x7_1).f3.f2).toList.isEmpty from by cases ((rd_T30 l0 x7_1).f3.f2).toList <;> rfl] at hq_; exact hq_
                      clear c24
                      obtain rfl := Option.some.inj H
                      have hcz25_0 : wc.cell? ⟨gb254, 0, none⟩ = some (.int .i64 ((rd_T30 l0 x7_1).f0)) := (blk_cell BK254.out 0).trans rfl
                      have hcz25_1 : wc.cell? ⟨gb254, 1, none⟩ = some (.int .i64 ((rd_T30 l0 x7_1).f1)) := (blk_cell BK254.out 1).trans rfl
                      have hcz25_2 : wc.cell? ⟨gb254, 2, none⟩ = some (.int .i64 ((rd_T30 l0 x7_1).f2)) := (blk_cell BK254.out 2).trans rfl
                      have hcz25_3 : wc.cell? ⟨gb254, 3, none⟩ = some (.int .i64 ((rd_T30 l0 x7_1).f3.f0)) := (blk_cell BK254.out 3).trans rfl
                      have hcz25_4 : wc.cell? ⟨gb254, 4, none⟩ = some (.int .i64 ((rd_T30 l0 x7_1).f3.f1)) := (blk_cell BK254.out 4).trans rfl
                      have hcz25_5 : wc.cell? ⟨gb254, 5, none⟩ = some (.string ((rd_T30 l0 x7_1).f3.f2)) := (blk_cell BK254.out 5).trans rfl
                      have hcz25_6 : wc.cell? ⟨gb254, 6, none⟩ = some (.int .i64 ((rd_T30 l0 x7_1).f4)) := (blk_cell BK254.out 6).trans rfl
                      have hcz25_7 : wc.cell? ⟨gb254, 7, none⟩ = some (.int .i64 ((rd_T30 l0 x7_1).f5)) := (blk_cell BK254.out 7).trans rfl
                      have hfz25_0 := blk_frozen BK254.out 0
                      have hfz25_1 := blk_frozen BK254.out 1
                      have hfz25_2 := blk_frozen BK254.out 2
                      have hfz25_3 := blk_frozen BK254.out 3
                      have hfz25_4 := blk_frozen BK254.out 4
                      have hfz25_5 := blk_frozen BK254.out 5
                      have hfz25_6 := blk_frozen BK254.out 6
                      have hfz25_7 := blk_frozen BK254.out 7
                      go_wp2
                      go_ret
                      exact ⟨by first | rfl | (simp [errW_none, errW_some] <;> rfl) | (simp [*, errW_none, errW_some] <;> rfl), by repeat (first | (with_reducible first | exact HB.out | apply below_alloc | apply pw_below_drewN | apply below_drew1 | refine below_set ?_ GE254.out) | exact HB.out)⟩
                    · rw [if_neg c24] at H
                      have c24b0 : (!(((rd_T30 l0 x7_1).f3.f0) == 0) || (!(((rd_T30 l0 x7_1).f3.f1) == 0) || (!(((rd_T30 l0 x7_1).f3.f2).toList == ([] : List UInt8))))) = false := by simpa using c24
                      have c24b0e : (!(((rd_T30 l0 x7_1).f3.f0) == 0) || (!(((rd_T30 l0 x7_1).f3.f1) == 0) || (!((rd_T30 l0 x7_1).f3.f2).toList.isEmpty))) = false := by have hq_ := c24b0; simp only [show (((rd_T30 l0 x7_1).f3.f2).toList == ([] : List UInt8)) = ((rd_T30 l0 x7_1).f3.f2).toList.isEmpty from by cases ((rd_T30 l0 x7_1).f3.f2).toList <;> rfl] at hq_; exact hq_
                      clear c24
                      replace H := Option.bind_eq_some_iff.mp H
                      obtain ⟨t260, A260, H⟩ := H
                      replace H : (if t260 = true then (impl_RulesOk.l0 kj4 l0 l0 (l0.length : Int) (wrap64 (x7_1 + 1))) else (some false)) = some r := H
                      have A26 := Aside0.mk A260
                      clear A260
                      by_cases c27 : t260 = true
                      · subst c27
                        have H1 : (impl_RulesOk.l0 kj4 l0 l0 (l0.length : Int) (wrap64 (x7_1 + 1))) = some r := by rw [if_pos rfl] at H; exact H
                        clear H
                        have H := H1
                        clear H1
                        have H' := Aside0.mk H
                        clear H
                        have hcz28_0 : wc.cell? ⟨gb254, 0, none⟩ = some (.int .i64 ((rd_T30 l0 x7_1).f0)) := (blk_cell BK254.out 0).trans rfl
                        have hcz28_1 : wc.cell? ⟨gb254, 1, none⟩ = some (.int .i64 ((rd_T30 l0 x7_1).f1)) := (blk_cell BK254.out 1).trans rfl
                        have hcz28_2 : wc.cell? ⟨gb254, 2, none⟩ = some (.int .i64 ((rd_T30 l0 x7_1).f2)) := (blk_cell BK254.out 2).trans rfl
                        have hcz28_3 : wc.cell? ⟨gb254, 3, none⟩ = some (.int .i64 ((rd_T30 l0 x7_1).f3.f0)) := (blk_cell BK254.out 3).trans rfl
                        have hcz28_4 : wc.cell? ⟨gb254, 4, none⟩ = some (.int .i64 ((rd_T30 l0 x7_1).f3.f1)) := (blk_cell BK254.out 4).trans rfl
                        have hcz28_5 : wc.cell? ⟨gb254, 5, none⟩ = some (.string ((rd_T30 l0 x7_1).f3.f2)) := (blk_cell BK254.out 5).trans rfl
                        have hcz28_6 : wc.cell? ⟨gb254, 6, none⟩ = some (.int .i64 ((rd_T30 l0 x7_1).f4)) := (blk_cell BK254.out 6).trans rfl
                        have hcz28_7 : wc.cell? ⟨gb254, 7, none⟩ = some (.int .i64 ((rd_T30 l0 x7_1).f5)) := (blk_cell BK254.out 7).trans rfl
                        have hfz28_0 := blk_frozen BK254.out 0
                        have hfz28_1 := blk_frozen BK254.out 1
                        have hfz28_2 := blk_frozen BK254.out 2
                        have hfz28_3 := blk_frozen BK254.out 3
                        have hfz28_4 := blk_frozen BK254.out 4
                        have hfz28_5 := blk_frozen BK254.out 5
                        have hfz28_6 := blk_frozen BK254.out 6
                        have hfz28_7 := blk_frozen BK254.out 7
                        go_wp2_with (first | (go_at_call 35; (with_reducible refine (impl_ValOk.calls kj4 ((rd_T30 l0 x7_1).f3.f0) ((rd_T30 l0 x7_1).f3.f1) ((rd_T30 l0 x7_1).f3.f2) true _ A26.out).mono ?_); rintro e w29 ⟨rfl, hb⟩; have n0_ := Aside0.mk (blk_below (g := gb254) (o := .cells #[.int .i64 ((rd_T30 l0 x7_1).f0), .int .i64 ((rd_T30 l0 x7_1).f1), .int .i64 ((rd_T30 l0 x7_1).f2), .int .i64 ((rd_T30 l0 x7_1).f3.f0), .int .i64 ((rd_T30 l0 x7_1).f3.f1), .string ((rd_T30 l0 x7_1).f3.f2), .int .i64 ((rd_T30 l0 x7_1).f4), .int .i64 ((rd_T30 l0 x7_1).f5)] 30 (0, 0)) (by (with_reducible repeat (first | refine blk_drewN ?_ _ | refine blk_drew ?_ | refine blk_alloc ?_ _)); exact BK254.out) hb); have n1_ := Aside0.mk (below_step (by repeat (first | (with_reducible first | exact HB.out | apply below_alloc | apply pw_below_drewN | apply below_drew1 | refine below_set ?_ GE254.out) | exact HB.out)) hb); clear BK254; clear HB; have BK254 := n0_; have HB := n1_; clear n0_ n1_; (try clear hb); (try clear hb2); (try clear hk); (try clear hi)))
                        go_roundg kj4
                        case measure => have := HK1.out; have := HJ4.out; omega
                        case rel => exact ⟨(wrap64 (x7_1 + 1)), (by first | rfl | (simp; done) | (simp [*]; done)), H', ⟨by have := HK1.out; have := HJ4.out; omega⟩, ⟨by repeat (first | (with_reducible first | exact HB.out | apply below_alloc | apply pw_below_drewN | apply below_drew1 | refine below_set ?_ GE254.out) | exact HB.out)⟩⟩
                      · replace c27 := Bool.eq_false_iff.mpr c27
                        subst c27
                        have H1 : (some false) = some r := by rw [if_neg (show ¬ (false = true) by decide)] at H; exact H
                        clear H
                        have H := H1
                        clear H1
                        obtain rfl := Option.some.inj H
                        have hcz30_0 : wc.cell? ⟨gb254, 0, none⟩ = some (.int .i64 ((rd_T30 l0 x7_1).f0)) := (blk_cell BK254.out 0).trans rfl
                        have hcz30_1 : wc.cell? ⟨gb254, 1, none⟩ = some (.int .i64 ((rd_T30 l0 x7_1).f1)) := (blk_cell BK254.out 1).trans rfl
                        have hcz30_2 : wc.cell? ⟨gb254, 2, none⟩ = some (.int .i64 ((rd_T30 l0 x7_1).f2)) := (blk_cell BK254.out 2).trans rfl
                        have hcz30_3 : wc.cell? ⟨gb254, 3, none⟩ = some (.int .i64 ((rd_T30 l0 x7_1).f3.f0)) := (blk_cell BK254.out 3).trans rfl
                        have hcz30_4 : wc.cell? ⟨gb254, 4, none⟩ = some (.int .i64 ((rd_T30 l0 x7_1).f3.f1)) := (blk_cell BK254.out 4).trans rfl
                        have hcz30_5 : wc.cell? ⟨gb254, 5, none⟩ = some (.string ((rd_T30 l0 x7_1).f3.f2)) := (blk_cell BK254.out 5).trans rfl
                        have hcz30_6 : wc.cell? ⟨gb254, 6, none⟩ = some (.int .i64 ((rd_T30 l0 x7_1).f4)) := (blk_cell BK254.out 6).trans rfl
                        have hcz30_7 : wc.cell? ⟨gb254, 7, none⟩ = some (.int .i64 ((rd_T30 l0 x7_1).f5)) := (blk_cell BK254.out 7).trans rfl
                        have hfz30_0 := blk_frozen BK254.out 0
                        have hfz30_1 := blk_frozen BK254.out 1
                        have hfz30_2 := blk_frozen BK254.out 2
                        have hfz30_3 := blk_frozen BK254.out 3
                        have hfz30_4 := blk_frozen BK254.out 4
                        have hfz30_5 := blk_frozen BK254.out 5
                        have hfz30_6 := blk_frozen BK254.out 6
                        have hfz30_7 := blk_frozen BK254.out 7
                        go_wp2_with (first | (go_at_call 35; (with_reducible refine (impl_ValOk.calls kj4 ((rd_T30 l0 x7_1).f3.f0) ((rd_T30 l0 x7_1).f3.f1) ((rd_T30 l0 x7_1).f3.f2) false _ A26.out).mono ?_); rintro e w31 ⟨rfl, hb⟩; have n0_ := Aside0.mk (blk_below (g := gb254) (o := .cells #[.int .i64 ((rd_T30 l0 x7_1).f0), .int .i64 ((rd_T30 l0 x7_1).f1), .int .i64 ((rd_T30 l0 x7_1).f2), .int .i64 ((rd_T30 l0 x7_1).f3.f0), .int .i64 ((rd_T30 l0 x7_1).f3.f1), .string ((rd_T30 l0 x7_1).f3.f2), .int .i64 ((rd_T30 l0 x7_1).f4), .int .i64 ((rd_T30 l0 x7_1).f5)] 30 (0, 0)) (by (with_reducible repeat (first | refine blk_drewN ?_ _ | refine blk_drew ?_ | refine blk_alloc ?_ _)); exact BK254.out) hb); have n1_ := Aside0.mk (below_step (by repeat (first | (with_reducible first | exact HB.out | apply below_alloc | apply pw_below_drewN | apply below_drew1 | refine below_set ?_ GE254.out) | exact HB.out)) hb); clear BK254; clear HB; have BK254 := n0_; have HB := n1_; clear n0_ n1_; (try clear hb); (try clear hb2); (try clear hk); (try clear hi)))
                        go_ret
                        exact ⟨by first | rfl | (simp [errW_none, errW_some] <;> rfl) | (simp [*, errW_none, errW_some] <;> rfl), by repeat (first | (with_reducible first | exact HB.out | apply below_alloc | apply pw_below_drewN | apply below_drew1 | refine below_set ?_ GE254.out) | exact HB.out)⟩
                  · rw [if_neg c23] at H
                    have c23b0 : (((rd_T30 l0 x7_1).f2) == (-1)) = false := beq_eq_false_iff_ne.mpr c23
                    have c23b1 : (((rd_T30 l0 x7_1).f2) != (-1)) = true := bne_iff_ne.mpr c23
                    replace H := Option.bind_eq_some_iff.mp H
                    obtain ⟨t261, A320, H⟩ := H
                    replace H : (if t261 = true then (impl_RulesOk.l0 kj4 l0 l0 (l0.length : Int) (wrap64 (x7_1 + 1))) else (some false)) = some r := H
                    have A32 := Aside0.mk A320
                    clear A320
                    by_cases c33 : t261 = true
                    · subst c33
                      have H1 : (impl_RulesOk.l0 kj4 l0 l0 (l0.length : Int) (wrap64 (x7_1 + 1))) = some r := by rw [if_pos rfl] at H; exact H
                      clear H
                      have H := H1
                      clear H1
                      have H' := Aside0.mk H
                      clear H
                      have hcz34_0 : wc.cell? ⟨gb254, 0, none⟩ = some (.int .i64 ((rd_T30 l0 x7_1).f0)) := (blk_cell BK254.out 0).trans rfl
                      have hcz34_1 : wc.cell? ⟨gb254, 1, none⟩ = some (.int .i64 ((rd_T30 l0 x7_1).f1)) := (blk_cell BK254.out 1).trans rfl
                      have hcz34_2 : wc.cell? ⟨gb254, 2, none⟩ = some (.int .i64 ((rd_T30 l0 x7_1).f2)) := (blk_cell BK254.out 2).trans rfl
                      have hcz34_3 : wc.cell? ⟨gb254, 3, none⟩ = some (.int .i64 ((rd_T30 l0 x7_1).f3.f0)) := (blk_cell BK254.out 3).trans rfl
                      have hcz34_4 : wc.cell? ⟨gb254, 4, none⟩ = some (.int .i64 ((rd_T30 l0 x7_1).f3.f1)) := (blk_cell BK254.out 4).trans rfl
                      have hcz34_5 : wc.cell? ⟨gb254, 5, none⟩ = some (.string ((rd_T30 l0 x7_1).f3.f2)) := (blk_cell BK254.out 5).trans rfl
                      have hcz34_6 : wc.cell? ⟨gb254, 6, none⟩ = some (.int .i64 ((rd_T30 l0 x7_1).f4)) := (blk_cell BK254.out 6).trans rfl
                      have hcz34_7 : wc.cell? ⟨gb254, 7, none⟩ = some (.int .i64 ((rd_T30 l0 x7_1).f5)) := (blk_cell BK254.out 7).trans rfl
                      have hfz34_0 := blk_frozen BK254.out 0
                      have hfz34_1 := blk_frozen BK254.out 1
                      have hfz34_2 := blk_frozen BK254.out 2
                      have hfz34_3 := blk_frozen BK254.out 3
                      have hfz34_4 := blk_frozen BK254.out 4
                      have hfz34_5 := blk_frozen BK254.out 5
                      have hfz34_6 := blk_frozen BK254.out 6
                      have hfz34_7 := blk_frozen BK254.out 7
                      go_wp2_with (first | (go_at_call 35; (with_reducible refine (impl_ValOk.calls kj4 ((rd_T30 l0 x7_1).f3.f0) ((rd_T30 l0 x7_1).f3.f1) ((rd_T30 l0 x7_1).f3.f2) true _ A32.out).mono ?_); rintro e w35 ⟨rfl, hb⟩; have n0_ := Aside0.mk (blk_below (g := gb254) (o := .cells #[.int .i64 ((rd_T30 l0 x7_1).f0), .int .i64 ((rd_T30 l0 x7_1).f1), .int .i64 ((rd_T30 l0 x7_1).f2), .int .i64 ((rd_T30 l0 x7_1).f3.f0), .int .i64 ((rd_T30 l0 x7_1).f3.f1), .string ((rd_T30 l0 x7_1).f3.f2), .int .i64 ((rd_T30 l0 x7_1).f4), .int .i64 ((rd_T30 l0 x7_1).f5)] 30 (0, 0)) (by (with_reducible repeat (first | refine blk_drewN ?_ _ | refine blk_drew ?_ | refine blk_alloc ?_ _)); exact BK254.out) hb); have n1_ := Aside0.mk (below_step (by repeat (first | (with_reducible first | exact HB.out | apply below_alloc | apply pw_below_drewN | apply below_drew1 | refine below_set ?_ GE254.out) | exact HB.out)) hb); clear BK254; clear HB; have BK254 := n0_; have HB := n1_; clear n0_ n1_; (try clear hb); (try clear hb2); (try clear hk); (try clear hi)))
                      go_roundg kj4
                      case measure => have := HK1.out; have := HJ4.out; omega
                      case rel => exact ⟨(wrap64 (x7_1 + 1)), (by first | rfl | (simp; done) | (simp [*]; done)), H', ⟨by have := HK1.out; have := HJ4.out; omega⟩, ⟨by repeat (first | (with_reducible first | exact HB.out | apply below_alloc | apply pw_below_drewN | apply below_drew1 | refine below_set ?_ GE254.out) | exact HB.out)⟩⟩
                    · replace c33 := Bool.eq_false_iff.mpr c33
                      subst c33
                      have H1 : (some false) = some r := by rw [if_neg (show ¬ (false = true) by decide)] at H; exact H
                      clear H
                      have H := H1
                      clear H1
                      obtain rfl := Option.some.inj H
                      have hcz36_0 : wc.cell? ⟨gb254, 0, none⟩ = some (.int .i64 ((rd_T30 l0 x7_1).f0)) := (blk_cell BK254.out 0).trans rfl
                      have hcz36_1 : wc.cell? ⟨gb254, 1, none⟩ = some (.int .i64 ((rd_T30 l0 x7_1).f1)) := (blk_cell BK254.out 1).trans rfl
                      have hcz36_2 : wc.cell? ⟨gb254, 2, none⟩ = some (.int .i64 ((rd_T30 l0 x7_1).f2)) := (blk_cell BK254.out 2).trans rfl
                      have hcz36_3 : wc.cell? ⟨gb254, 3, none⟩ = some (.int .i64 ((rd_T30 l0 x7_1).f3.f0)) := (blk_cell BK254.out 3).trans rfl
                      have hcz36_4 : wc.cell? ⟨gb254, 4, none⟩ = some (.int .i64 ((rd_T30 l0 x7_1).f3.f1)) := (blk_cell BK254.out 4).trans rfl
                      have hcz36_5 : wc.cell? ⟨gb254, 5, none⟩ = some (.string ((rd_T30 l0 x7_1).f3.f2)) := (blk_cell BK254.out 5).trans rfl
                      have hcz36_6 : wc.cell? ⟨gb254, 6, none⟩ = some (.int .i64 ((rd_T30 l0 x7_1).f4)) := (blk_cell BK254.out 6).trans rfl
                      have hcz36_7 : wc.cell? ⟨gb254, 7, none⟩ = some (.int .i64 ((rd_T30 l0 x7_1).f5)) := (blk_cell BK254.out 7).trans rfl
                      have hfz36_0 := blk_frozen BK254.out 0
                      have hfz36_1 := blk_frozen BK254.out 1
                      have hfz36_2 := blk_frozen BK254.out 2
                      have hfz36_3 := blk_frozen BK254.out 3
                      have hfz36_4 := blk_frozen BK254.out 4
                      have hfz36_5 := blk_frozen BK254.out 5
                      have hfz36_6 := blk_frozen BK254.out 6
                      have hfz36_7 := blk_frozen BK254.out 7
                      go_wp2_with (first | (go_at_call 35; (with_reducible refine (impl_ValOk.calls kj4 ((rd_T30 l0 x7_1).f3.f0) ((rd_T30 l0 x7_1).f3.f1) ((rd_T30 l0 x7_1).f3.f2) false _ A32.out).mono ?_); rintro e w37 ⟨rfl, hb⟩; have n0_ := Aside0.mk (blk_below (g := gb254) (o := .cells #[.int .i64 ((rd_T30 l0 x7_1).f0), .int .i64 ((rd_T30 l0 x7_1).f1), .int .i64 ((rd_T30 l0 x7_1).f2), .int .i64 ((rd_T30 l0 x7_1).f3.f0), .int .i64 ((rd_T30 l0 x7_1).f3.f1), .string ((rd_T30 l0 x7_1).f3.f2), .int .i64 ((rd_T30 l0 x7_1).f4), .int .i64 ((rd_T30 l0 x7_1).f5)] 30 (0, 0)) (by (with_reducible repeat (first | refine blk_drewN ?_ _ | refine blk_drew ?_ | refine blk_alloc ?_ _)); exact BK254.out) hb); have n1_ := Aside0.mk (below_step (by repeat (first | (with_reducible first | exact HB.out | apply below_alloc | apply pw_below_drewN | apply below_drew1 | refine below_set ?_ GE254.out) | exact HB.out)) hb); clear BK254; clear HB; have BK254 := n0_; have HB := n1_; clear n0_ n1_; (try clear hb); (try clear hb2); (try clear hk); (try clear hi)))
                      go_ret
                      exact ⟨by first | rfl | (simp [errW_none, errW_some] <;> rfl) | (simp [*, errW_none, errW_some] <;> rfl), by repeat (first | (with_reducible first | exact HB.out | apply below_alloc | apply pw_below_drewN | apply below_drew1 | refine below_set ?_ GE254.out) | exact HB.out)⟩
          · rw [if_neg c4] at H
            exact absurd H (by simp)
        · rw [if_neg c3] at H
          exact absurd H (by simp)
      · rw [if_neg c2] at H
        have c2b0 : decide (x7_1 < (l0.length : Int)) = false := decide_eq_false c2
        clear c2
        obtain rfl := Option.some.inj H
        go_wp2
        go_ret
        exact ⟨by first | rfl | (simp [errW_none, errW_some] <;> rfl) | (simp [*, errW_none, errW_some] <;> rfl), by repeat (first | (with_reducible first | exact HB.out | apply below_alloc | apply pw_below_drewN | apply below_drew1) | exact HB.out)⟩

/-! ### impl_weight: function 39 -/
def impl_weight.j0 : Nat → Int → Int → Int → Int → Int → Int → ByteArray → Int → Int → Option (Int)
  | 0, _, _, _, _, _, _, _, _, _ => none
  | k + 1, x3, x263000, x263001, x263002, x263003, x263004, x263005, x263006, x263007 => if x263001 = (-1) then (if x263002 = (-1) then (some x3) else (some (wrap64 (x3 + 10)))) else (if x263002 = (-1) then (some (wrap64 (x3 + 1))) else (some (wrap64 ((wrap64 (x3 + 1)) + 10))))
def impl_weight.f (k : Nat) (a0_0 : Int) (a0_1 : Int) (a0_2 : Int) (a0_3 : Int) (a0_4 : Int) (a0_5 : ByteArray) (a0_6 : Int) (a0_7 : Int) : Option (Int) := if a0_0 = (-1) then (impl_weight.j0 k 0 a0_0 a0_1 a0_2 a0_3 a0_4 a0_5 a0_6 a0_7) else (impl_weight.j0 k (0 + 1) a0_0 a0_1 a0_2 a0_3 a0_4 a0_5 a0_6 a0_7)
theorem impl_weight.mono_l : ∀ k, (∀ y0 y1 y2 y3 y4 y5 y6 y7 y8, LeO (impl_weight.j0 k y0 y1 y2 y3 y4 y5 y6 y7 y8) (impl_weight.j0 (k + 1) y0 y1 y2 y3 y4 y5 y6 y7 y8))
  | 0 => fun _ _ _ _ _ _ _ _ _ r h => by simp [impl_weight.j0] at h
  | k + 1 => by
    have ih0 := impl_weight.mono_l k
    · intro y0 y1 y2 y3 y4 y5 y6 y7 y8
      unfold impl_weight.j0
      repeat' first
      | (with_reducible exact ih0 _ _ _ _ _ _ _ _ _)
      | (with_reducible exact LeO.refl _)
      | (with_reducible exact LeO.none _)
      | (with_reducible refine LeO.ite ?_ ?_)
      | (with_reducible refine LeO.bind ?_ (fun _ => ?_))
      | exact ih0 _ _ _ _ _ _ _ _ _
      | exact LeO.none _
      | refine LeO.ite ?_ ?_
      | refine LeO.bind ?_ (fun _ => ?_)
theorem impl_weight.mono : ∀ a0 a1 a2 a3 a4 a5 a6 a7 k, LeO (impl_weight.f k a0 a1 a2 a3 a4 a5 a6 a7) (impl_weight.f (k + 1) a0 a1 a2 a3 a4 a5 a6 a7) := by
  intro a0 a1 a2 a3 a4 a5 a6 a7 k
  have ih0 := impl_weight.mono_l k
  unfold impl_weight.f
  repeat' first
      | (with_reducible exact ih0 _ _ _ _ _ _ _ _ _)
      | (with_reducible exact LeO.refl _)
      | (with_reducible exact LeO.none _)
      | (with_reducible refine LeO.ite ?_ ?_)
      | (with_reducible refine LeO.bind ?_ (fun _ => ?_))
      | exact ih0 _ _ _ _ _ _ _ _ _
      | exact LeO.none _
      | refine LeO.ite ?_ ?_
      | refine LeO.bind ?_ (fun _ => ?_)
set_option maxHeartbeats 8000000 in
set_option maxRecDepth 100000 in
theorem impl_weight.calls (k : Nat) (a0_0 : Int) (a0_1 : Int) (a0_2 : Int) (a0_3 : Int) (a0_4 : Int) (a0_5 : ByteArray) (a0_6 : Int) (a0_7 : Int) (r : Int) (w : World) (h : impl_weight.f k a0_0 a0_1 a0_2 a0_3 a0_4 a0_5 a0_6 a0_7 = some r) :
    Calls Try.prog 39 #[.agg #[.int .i64 a0_0, .int .i64 a0_1, .int .i64 a0_2, .int .i64 a0_3, .int .i64 a0_4, .string a0_5, .int .i64 a0_6, .int .i64 a0_7]] w fun e w' => e = .returned (.int .i64 r) ∧ Below w.heap.size w w' := by
  have hu30 := Try.underlying30
  have HB := Aside0.mk (Below.refl w.heap.size w)
  have H : (if a0_0 = (-1) then (impl_weight.j0 k 0 a0_0 a0_1 a0_2 a0_3 a0_4 a0_5 a0_6 a0_7) else (impl_weight.j0 k (0 + 1) a0_0 a0_1 a0_2 a0_3 a0_4 a0_5 a0_6 a0_7)) = some r := h
  clear h
  have HC2 := Aside0.mk H
  clear H
  go_enter Try.func39, Try.ntmps39
  go_upto_if 6 with (first | ((with_reducible refine gate_dst (N := 1) rfl ?_); refine box_event ?hg (N := 1) ?hd (cs := #[.int .i64 a0_0, .int .i64 a0_1, .int .i64 a0_2, .int .i64 a0_3, .int .i64 a0_4, .string a0_5, .int .i64 a0_6, .int .i64 a0_7]) (t := 30) ?hr ?_; (case hd => rfl); (case hg => rfl); (case hr => first | (go_simp; done) | (go_simp; rfl)); intro gb262 hg w3 hbox hb; have n0_ := Aside0.mk (below_step (by repeat (first | (with_reducible first | exact HB.out | apply below_alloc | apply pw_below_drewN | apply below_drew1) | exact HB.out)) hb); have n1_ := Aside0.mk (hbox); have n2_ := Aside0.mk ((by rw [hg]; exact (below_size (by repeat (first | (with_reducible first | exact HB.out | apply below_alloc | apply pw_below_drewN | apply below_drew1) | exact HB.out))) : w.heap.size ≤ gb262)); have n3_ := Aside0.mk ((by rw [hg]; exact (below_size (by repeat (first | (with_reducible first | exact HB.out | apply below_alloc | apply pw_below_drewN | apply below_drew1) | exact HB.out))) : w.heap.size ≤ gb262)); clear HB; have HB := n0_; have BK262 := n1_; have GW262 := n2_; have GE262 := n3_; clear n0_ n1_ n2_ n3_; clear hb hbox hg; have hcz4_0 : w3.cell? ⟨gb262, 0, none⟩ = some (.int .i64 a0_0) := (blk_cell BK262.out 0).trans rfl; have hcz4_1 : w3.cell? ⟨gb262, 1, none⟩ = some (.int .i64 a0_1) := (blk_cell BK262.out 1).trans rfl; have hcz4_2 : w3.cell? ⟨gb262, 2, none⟩ = some (.int .i64 a0_2) := (blk_cell BK262.out 2).trans rfl; have hcz4_3 : w3.cell? ⟨gb262, 3, none⟩ = some (.int .i64 a0_3) := (blk_cell BK262.out 3).trans rfl; have hcz4_4 : w3.cell? ⟨gb262, 4, none⟩ = some (.int .i64 a0_4) := (blk_cell BK262.out 4).trans rfl; have hcz4_5 : w3.cell? ⟨gb262, 5, none⟩ = some (.string a0_5) := (blk_cell BK262.out 5).trans rfl; have hcz4_6 : w3.cell? ⟨gb262, 6, none⟩ = some (.int .i64 a0_6) := (blk_cell BK262.out 6).trans rfl; have hcz4_7 : w3.cell? ⟨gb262, 7, none⟩ = some (.int .i64 a0_7) := (blk_cell BK262.out 7).trans rfl; have hfz4_0 := blk_frozen BK262.out 0; have hfz4_1 := blk_frozen BK262.out 1; have hfz4_2 := blk_frozen BK262.out 2; have hfz4_3 := blk_frozen BK262.out 3; have hfz4_4 := blk_frozen BK262.out 4; have hfz4_5 := blk_frozen BK262.out 5; have hfz4_6 := blk_frozen BK262.out 6; have hfz4_7 := blk_frozen BK262.out 7))
  (try simp only [Act.put, List.setIfInBounds_toArray, List.set_cons_zero, List.set_cons_succ])
  go_cut [3] (fun v3 wc => ∃ (kq : Nat) (x3_1 : Int), v3 = .int .i64 x3_1 ∧ Aside0 (impl_weight.j0 kq x3_1 a0_0 a0_1 a0_2 a0_3 a0_4 a0_5 a0_6 a0_7 = some r) ∧ Aside0 (kq ≤ k) ∧ Aside0 (wc.heap[gb262]? = some (.cells #[.int .i64 a0_0, .int .i64 a0_1, .int .i64 a0_2, .int .i64 a0_3, .int .i64 a0_4, .string a0_5, .int .i64 a0_6, .int .i64 a0_7] 30 (0, 0))) ∧ Aside0 (Below w.heap.size w wc))
  case first =>
    have H := HC2.out
    clear HC2
    by_cases c5 : a0_0 = (-1)
    · rw [if_pos c5] at H
      have c5b0 : (a0_0 == (-1)) = true := beq_iff_eq.mpr c5
      have c5b1 : (a0_0 != (-1)) = false := bne_eq_false_iff_eq.mpr c5
      clear c5
      (first | rw [c5b0] | (simp only [i64_w, i32_w]; rw [c5b0]) | skip)
      have H' := Aside0.mk H
      clear H
      go_wp2
      go_meet
      case rel => exact ⟨_, (0), (by first | rfl | (simp; done) | (simp [*]; done)), H', ⟨by first | omega | exact Nat.le_refl _⟩, ⟨by (with_reducible repeat (first | refine blk_drewN ?_ _ | refine blk_drew ?_ | refine blk_alloc ?_ _)); exact BK262.out⟩, ⟨by repeat (first | (with_reducible first | exact HB.out | apply below_alloc | apply pw_below_drewN | apply below_drew1 | refine below_set ?_ GE262.out) | exact HB.out)⟩⟩
    · rw [if_neg c5] at H
      have c5b0 : (a0_0 == (-1)) = false := beq_eq_false_iff_ne.mpr c5
      have c5b1 : (a0_0 != (-1)) = true := bne_iff_ne.mpr c5
      (first | rw [c5b0] | (simp only [i64_w, i32_w]; rw [c5b0]) | skip)
      have H' := Aside0.mk H
      clear H
      go_wp2
      go_meet
      case rel => exact ⟨_, (0 + 1), (by first | rfl | (simp; done) | (simp [*]; done)), H', ⟨by first | omega | exact Nat.le_refl _⟩, ⟨by (with_reducible repeat (first | refine blk_drewN ?_ _ | refine blk_drew ?_ | refine blk_alloc ?_ _)); exact BK262.out⟩, ⟨by repeat (first | (with_reducible first | exact HB.out | apply below_alloc | apply pw_below_drewN | apply below_drew1 | refine below_set ?_ GE262.out) | exact HB.out)⟩⟩
  case rest =>
    clear HC2
    try clear p2
    try clear c3
    try clear c5
    try clear c5b0
    try clear c5b1
    try clear hcz4_0
    try clear hcz4_1
    try clear hcz4_2
    try clear hcz4_3
    try clear hcz4_4
    try clear hcz4_5
    try clear hcz4_6
    try clear hcz4_7
    try clear hfz4_0
    try clear hfz4_1
    try clear hfz4_2
    try clear hfz4_3
    try clear hfz4_4
    try clear hfz4_5
    try clear hfz4_6
    try clear hfz4_7
    obtain ⟨kq, x3_1, rfl, HA, HJ1, BK262, HB⟩ := hcut
    cases kq with
    | zero => exact absurd HA.out (by simp [impl_weight.j0])
    | succ kj1 =>
      have H := HA.out
      clear HA
      simp only [impl_weight.j0] at H
      by_cases c6 : a0_1 = (-1)
      · rw [if_pos c6] at H
        have c6b0 : (a0_1 == (-1)) = true := beq_iff_eq.mpr c6
        have c6b1 : (a0_1 != (-1)) = false := bne_eq_false_iff_eq.mpr c6
        clear c6
        by_cases c7 : a0_2 = (-1)
        · rw [if_pos c7] at H
          have c7b0 : (a0_2 == (-1)) = true := beq_iff_eq.mpr c7
          have c7b1 : (a0_2 != (-1)) = false := bne_eq_false_iff_eq.mpr c7
          clear c7
          obtain rfl := Option.some.inj H
          have hcz8_0 : wc.cell? ⟨gb262, 0, none⟩ = some (.int .i64 a0_0) := (blk_cell BK262.out 0).trans rfl
          have hcz8_1 : wc.cell? ⟨gb262, 1, none⟩ = some (.int .i64 a0_1) := (blk_cell BK262.out 1).trans rfl
          have hcz8_2 : wc.cell? ⟨gb262, 2, none⟩ = some (.int .i64 a0_2) := (blk_cell BK262.out 2).trans rfl
          have hcz8_3 : wc.cell? ⟨gb262, 3, none⟩ = some (.int .i64 a0_3) := (blk_cell BK262.out 3).trans rfl
          have hcz8_4 : wc.cell? ⟨gb262, 4, none⟩ = some (.int .i64 a0_4) := (blk_cell BK262.out 4).trans rfl
          have hcz8_5 : wc.cell? ⟨gb262, 5, none⟩ = some (.string a0_5) := (blk_cell BK262.out 5).trans rfl
          have hcz8_6 : wc.cell? ⟨gb262, 6, none⟩ = some (.int .i64 a0_6) := (blk_cell BK262.out 6).trans rfl
          have hcz8_7 : wc.cell? ⟨gb262, 7, none⟩ = some (.int .i64 a0_7) := (blk_cell BK262.out 7).trans rfl
          have hfz8_0 := blk_frozen BK262.out 0
          have hfz8_1 := blk_frozen BK262.out 1
          have hfz8_2 := blk_frozen BK262.out 2
          have hfz8_3 := blk_frozen BK262.out 3
          have hfz8_4 := blk_frozen BK262.out 4
          have hfz8_5 := blk_frozen BK262.out 5
          have hfz8_6 := blk_frozen BK262.out 6
          have hfz8_7 := blk_frozen BK262.out 7
          go_wp2
          go_ret
          exact ⟨by first | rfl | (simp [errW_none, errW_some] <;> rfl) | (simp [*, errW_none, errW_some] <;> rfl), by repeat (first | (with_reducible first | exact HB.out | apply below_alloc | apply pw_below_drewN | apply below_drew1 | refine below_set ?_ GE262.out) | exact HB.out)⟩
        · rw [if_neg c7] at H
          have c7b0 : (a0_2 == (-1)) = false := beq_eq_false_iff_ne.mpr c7
          have c7b1 : (a0_2 != (-1)) = true := bne_iff_ne.mpr c7
          obtain rfl := Option.some.inj H
          have hcz9_0 : wc.cell? ⟨gb262, 0, none⟩ = some (.int .i64 a0_0) := (blk_cell BK262.out 0).trans rfl
          have hcz9_1 : wc.cell? ⟨gb262, 1, none⟩ = some (.int .i64 a0_1) := (blk_cell BK262.out 1).trans rfl
          have hcz9_2 : wc.cell? ⟨gb262, 2, none⟩ = some (.int .i64 a0_2) := (blk_cell BK262.out 2).trans rfl
          have hcz9_3 : wc.cell? ⟨gb262, 3, none⟩ = some (.int .i64 a0_3) := (blk_cell BK262.out 3).trans rfl
          have hcz9_4 : wc.cell? ⟨gb262, 4, none⟩ = some (.int .i64 a0_4) := (blk_cell BK262.out 4).trans rfl
          have hcz9_5 : wc.cell? ⟨gb262, 5, none⟩ = some (.string a0_5) := (blk_cell BK262.out 5).trans rfl
          have hcz9_6 : wc.cell? ⟨gb262, 6, none⟩ = some (.int .i64 a0_6) := (blk_cell BK262.out 6).trans rfl
          have hcz9_7 : wc.cell? ⟨gb262, 7, none⟩ = some (.int .i64 a0_7) := (blk_cell BK262.out 7).trans rfl
          have hfz9_0 := blk_frozen BK262.out 0
          have hfz9_1 := blk_frozen BK262.out 1
          have hfz9_2 := blk_frozen BK262.out 2
          have hfz9_3 := blk_frozen BK262.out 3
          have hfz9_4 := blk_frozen BK262.out 4
          have hfz9_5 := blk_frozen BK262.out 5
          have hfz9_6 := blk_frozen BK262.out 6
          have hfz9_7 := blk_frozen BK262.out 7
          go_wp2
          go_ret
          exact ⟨by first | rfl | (simp [errW_none, errW_some] <;> rfl) | (simp [*, errW_none, errW_some] <;> rfl), by repeat (first | (with_reducible first | exact HB.out | apply below_alloc | apply pw_below_drewN | apply below_drew1 | refine below_set ?_ GE262.out) | exact HB.out)⟩
      · rw [if_neg c6] at H
        have c6b0 : (a0_1 == (-1)) = false := beq_eq_false_iff_ne.mpr c6
        have c6b1 : (a0_1 != (-1)) = true := bne_iff_ne.mpr c6
        by_cases c10 : a0_2 = (-1)
        · rw [if_pos c10] at H
          have c10b0 : (a0_2 == (-1)) = true := beq_iff_eq.mpr c10
          have c10b1 : (a0_2 != (-1)) = false := bne_eq_false_iff_eq.mpr c10
          clear c10
          obtain rfl := Option.some.inj H
          have hcz11_0 : wc.cell? ⟨gb262, 0, none⟩ = some (.int .i64 a0_0) := (blk_cell BK262.out 0).trans rfl
          have hcz11_1 : wc.cell? ⟨gb262, 1, none⟩ = some (.int .i64 a0_1) := (blk_cell BK262.out 1).trans rfl
          have hcz11_2 : wc.cell? ⟨gb262, 2, none⟩ = some (.int .i64 a0_2) := (blk_cell BK262.out 2).trans rfl
          have hcz11_3 : wc.cell? ⟨gb262, 3, none⟩ = some (.int .i64 a0_3) := (blk_cell BK262.out 3).trans rfl
          have hcz11_4 : wc.cell? ⟨gb262, 4, none⟩ = some (.int .i64 a0_4) := (blk_cell BK262.out 4).trans rfl
          have hcz11_5 : wc.cell? ⟨gb262, 5, none⟩ = some (.string a0_5) := (blk_cell BK262.out 5).trans rfl
          have hcz11_6 : wc.cell? ⟨gb262, 6, none⟩ = some (.int .i64 a0_6) := (blk_cell BK262.out 6).trans rfl
          have hcz11_7 : wc.cell? ⟨gb262, 7, none⟩ = some (.int .i64 a0_7) := (blk_cell BK262.out 7).trans rfl
          have hfz11_0 := blk_frozen BK262.out 0
          have hfz11_1 := blk_frozen BK262.out 1
          have hfz11_2 := blk_frozen BK262.out 2
          have hfz11_3 := blk_frozen BK262.out 3
          have hfz11_4 := blk_frozen BK262.out 4
          have hfz11_5 := blk_frozen BK262.out 5
          have hfz11_6 := blk_frozen BK262.out 6
          have hfz11_7 := blk_frozen BK262.out 7
          go_wp2
          go_ret
          exact ⟨by first | rfl | (simp [errW_none, errW_some] <;> rfl) | (simp [*, errW_none, errW_some] <;> rfl), by repeat (first | (with_reducible first | exact HB.out | apply below_alloc | apply pw_below_drewN | apply below_drew1 | refine below_set ?_ GE262.out) | exact HB.out)⟩
        · rw [if_neg c10] at H
          have c10b0 : (a0_2 == (-1)) = false := beq_eq_false_iff_ne.mpr c10
          have c10b1 : (a0_2 != (-1)) = true := bne_iff_ne.mpr c10
          obtain rfl := Option.some.inj H
          have hcz12_0 : wc.cell? ⟨gb262, 0, none⟩ = some (.int .i64 a0_0) := (blk_cell BK262.out 0).trans rfl
          have hcz12_1 : wc.cell? ⟨gb262, 1, none⟩ = some (.int .i64 a0_1) := (blk_cell BK262.out 1).trans rfl
          have hcz12_2 : wc.cell? ⟨gb262, 2, none⟩ = some (.int .i64 a0_2) := (blk_cell BK262.out 2).trans rfl
          have hcz12_3 : wc.cell? ⟨gb262, 3, none⟩ = some (.int .i64 a0_3) := (blk_cell BK262.out 3).trans rfl
          have hcz12_4 : wc.cell? ⟨gb262, 4, none⟩ = some (.int .i64 a0_4) := (blk_cell BK262.out 4).trans rfl
          have hcz12_5 : wc.cell? ⟨gb262, 5, none⟩ = some (.string a0_5) := (blk_cell BK262.out 5).trans rfl
          have hcz12_6 : wc.cell? ⟨gb262, 6, none⟩ = some (.int .i64 a0_6) := (blk_cell BK262.out 6).trans rfl
          have hcz12_7 : wc.cell? ⟨gb262, 7, none⟩ = some (.int .i64 a0_7) := (blk_cell BK262.out 7).trans rfl
          have hfz12_0 := blk_frozen BK262.out 0
          have hfz12_1 := blk_frozen BK262.out 1
          have hfz12_2 := blk_frozen BK262.out 2
          have hfz12_3 := blk_frozen BK262.out 3
          have hfz12_4 := blk_frozen BK262.out 4
          have hfz12_5 := blk_frozen BK262.out 5
          have hfz12_6 := blk_frozen BK262.out 6
          have hfz12_7 := blk_frozen BK262.out 7
          go_wp2
          go_ret
          exact ⟨by first | rfl | (simp [errW_none, errW_some] <;> rfl) | (simp [*, errW_none, errW_some] <;> rfl), by repeat (first | (with_reducible first | exact HB.out | apply below_alloc | apply pw_below_drewN | apply below_drew1 | refine below_set ?_ GE262.out) | exact HB.out)⟩

/-! ### impl_RuleWeight: function 13 -/
def impl_RuleWeight.f (k : Nat) (a0_0 : Int) (a0_1 : Int) (a0_2 : Int) (a0_3 : Int) (a0_4 : Int) (a0_5 : ByteArray) (a0_6 : Int) (a0_7 : Int) : Option (Int) := (impl_RulesOk.f k (([(⟨a0_0, a0_1, a0_2, (⟨a0_3, a0_4, a0_5⟩ : S28), a0_6, a0_7⟩ : S30)] : List (S30)))).bind fun t267 => (if t267 = true then ((impl_weight.f k a0_0 a0_1 a0_2 a0_3 a0_4 a0_5 a0_6 a0_7).bind fun t268 => (some t268)) else (some (-1)))
theorem impl_RuleWeight.mono : ∀ a0 a1 a2 a3 a4 a5 a6 a7 k, LeO (impl_RuleWeight.f k a0 a1 a2 a3 a4 a5 a6 a7) (impl_RuleWeight.f (k + 1) a0 a1 a2 a3 a4 a5 a6 a7) := by
  intro a0 a1 a2 a3 a4 a5 a6 a7 k
  unfold impl_RuleWeight.f
  repeat' first
      | (with_reducible exact impl_RulesOk.mono _ _)
      | (with_reducible exact impl_weight.mono _ _ _ _ _ _ _ _ _)
      | (with_reducible exact LeO.refl _)
      | (with_reducible exact LeO.none _)
      | (with_reducible refine LeO.ite ?_ ?_)
      | (with_reducible refine LeO.bind ?_ (fun _ => ?_))
      | exact impl_RulesOk.mono _ _
      | exact impl_weight.mono _ _ _ _ _ _ _ _ _
      | exact LeO.none _
      | refine LeO.ite ?_ ?_
      | refine LeO.bind ?_ (fun _ => ?_)
set_option maxHeartbeats 8000000 in
set_option maxRecDepth 100000 in
theorem impl_RuleWeight.calls (k : Nat) (a0_0 : Int) (a0_1 : Int) (a0_2 : Int) (a0_3 : Int) (a0_4 : Int) (a0_5 : ByteArray) (a0_6 : Int) (a0_7 : Int) (r : Int) (w : World) (h : impl_RuleWeight.f k a0_0 a0_1 a0_2 a0_3 a0_4 a0_5 a0_6 a0_7 = some r) :
    Calls Try.prog 13 #[.agg #[.int .i64 a0_0, .int .i64 a0_1, .int .i64 a0_2, .int .i64 a0_3, .int .i64 a0_4, .string a0_5, .int .i64 a0_6, .int .i64 a0_7]] w fun e w' => e = .returned (.int .i64 r) ∧ Below w.heap.size w w' := by
  have hu30 := Try.underlying30
  have HB := Aside0.mk (Below.refl w.heap.size w)
  have H : ((impl_RulesOk.f k (([(⟨a0_0, a0_1, a0_2, (⟨a0_3, a0_4, a0_5⟩ : S28), a0_6, a0_7⟩ : S30)] : List (S30)))).bind fun t267 => (if t267 = true then ((impl_weight.f k a0_0 a0_1 a0_2 a0_3 a0_4 a0_5 a0_6 a0_7).bind fun t268 => (some t268)) else (some (-1)))) = some r := h
  clear h
  obtain ⟨y264, hy264⟩ : ∃ y_ : List (S30), y_ = (([(⟨a0_0, a0_1, a0_2, (⟨a0_3, a0_4, a0_5⟩ : S28), a0_6, a0_7⟩ : S30)] : List (S30))) := ⟨_, rfl⟩
  replace H : ((impl_RulesOk.f k y264).bind fun t267 => (if t267 = true then ((impl_weight.f k a0_0 a0_1 a0_2 a0_3 a0_4 a0_5 a0_6 a0_7).bind fun t268 => (some t268)) else (some (-1)))) = some r := by first | (rw [hy264]; with_reducible exact H) | (have H2_ := (Option.bind_some _ _).symm.trans H; rw [hy264]; with_reducible exact H2_) | (have H2_ := (Option.bind_some _ _).symm.trans H; with_reducible exact H2_) | with_reducible exact H | (rw [hy264]; exact H) | exact H
  have Ny264 := Aside0.mk hy264
  clear hy264
  replace H := Option.bind_eq_some_iff.mp H
  obtain ⟨t267, A20, H⟩ := H
  replace H : (if t267 = true then ((impl_weight.f k a0_0 a0_1 a0_2 a0_3 a0_4 a0_5 a0_6 a0_7).bind fun t268 => (some t268)) else (some (-1))) = some r := H
  have A2 := Aside0.mk A20
  clear A20
  by_cases c3 : t267 = true
  · subst c3
    have H1 : ((impl_weight.f k a0_0 a0_1 a0_2 a0_3 a0_4 a0_5 a0_6 a0_7).bind fun t268 => (some t268)) = some r := by rw [if_pos rfl] at H; exact H
    clear H
    have H := H1
    clear H1
    replace H := Option.bind_eq_some_iff.mp H
    obtain ⟨t268, A40, H⟩ := H
    replace H : (some t268) = some r := H
    have A4 := Aside0.mk A40
    clear A40
    obtain rfl := Option.some.inj H
    go_enter Try.func13, Try.ntmps13
    go_wp2_with (first | ((with_reducible refine gate_dst (N := 1) rfl ?_); refine box_event ?hg (N := 1) ?hd (cs := #[.int .i64 a0_0, .int .i64 a0_1, .int .i64 a0_2, .int .i64 a0_3, .int .i64 a0_4, .string a0_5, .int .i64 a0_6, .int .i64 a0_7]) (t := 30) ?hr ?_; (case hd => rfl); (case hg => rfl); (case hr => first | (go_simp; done) | (go_simp; rfl)); intro gb263 hg w5 hbox hb; have n0_ := Aside0.mk (below_step (by repeat (first | (with_reducible first | exact HB.out | apply below_alloc | apply pw_below_drewN | apply below_drew1) | exact HB.out)) hb); have n1_ := Aside0.mk (hbox); have n2_ := Aside0.mk ((by rw [hg]; exact (below_size (by repeat (first | (with_reducible first | exact HB.out | apply below_alloc | apply pw_below_drewN | apply below_drew1) | exact HB.out))) : w.heap.size ≤ gb263)); have n3_ := Aside0.mk ((by rw [hg]; exact (below_size (by repeat (first | (with_reducible first | exact HB.out | apply below_alloc | apply pw_below_drewN | apply below_drew1) | exact HB.out))) : w.heap.size ≤ gb263)); clear HB; have HB := n0_; have BK263 := n1_; have GW263 := n2_; have GE263 := n3_; clear n0_ n1_ n2_ n3_; clear hb hbox hg; have hcz6_0 : w5.cell? ⟨gb263, 0, none⟩ = some (.int .i64 a0_0) := (blk_cell BK263.out 0).trans rfl; have hcz6_1 : w5.cell? ⟨gb263, 1, none⟩ = some (.int .i64 a0_1) := (blk_cell BK263.out 1).trans rfl; have hcz6_2 : w5.cell? ⟨gb263, 2, none⟩ = some (.int .i64 a0_2) := (blk_cell BK263.out 2).trans rfl; have hcz6_3 : w5.cell? ⟨gb263, 3, none⟩ = some (.int .i64 a0_3) := (blk_cell BK263.out 3).trans rfl; have hcz6_4 : w5.cell? ⟨gb263, 4, none⟩ = some (.int .i64 a0_4) := (blk_cell BK263.out 4).trans rfl; have hcz6_5 : w5.cell? ⟨gb263, 5, none⟩ = some (.string a0_5) := (blk_cell BK263.out 5).trans rfl; have hcz6_6 : w5.cell? ⟨gb263, 6, none⟩ = some (.int .i64 a0_6) := (blk_cell BK263.out 6).trans rfl; have hcz6_7 : w5.cell? ⟨gb263, 7, none⟩ = some (.int .i64 a0_7) := (blk_cell BK263.out 7).trans rfl; have hfz6_0 := blk_frozen BK263.out 0; have hfz6_1 := blk_frozen BK263.out 1; have hfz6_2 := blk_frozen BK263.out 2; have hfz6_3 := blk_frozen BK263.out 3; have hfz6_4 := blk_frozen BK263.out 4; have hfz6_5 := blk_frozen BK263.out 5; have hfz6_6 := blk_frozen BK263.out 6; have hfz6_7 := blk_frozen BK263.out 7) | ((with_reducible refine gate_dst (N := 4) rfl ?_); refine Kd.R_lit k30 _ 30 ?hg (N := 4) ?hd (xs := ([(⟨a0_0, a0_1, a0_2, (⟨a0_3, a0_4, a0_5⟩ : S28), a0_6, a0_7⟩ : S30)] : List (S30))) (inner := [.int .i64 a0_0, .int .i64 a0_1, .int .i64 a0_2, .int .i64 a0_3, .int .i64 a0_4, .string a0_5, .int .i64 a0_6, .int .i64 a0_7]) (ok := fun _ => True) (okp := fun _ => True) ?hr ?hp (fun _ hk => hk) trivial (Below.refl _ _) (Nat.le_refl _) (by simp) ?_; (case hd => rfl); (case hg => rfl); (case hr => first | (go_simp; done) | (go_simp; rfl)); (case hp => exact (Reps.c8 (show Kd.M k30 _ _ _ (⟨a0_0, a0_1, a0_2, (⟨a0_3, a0_4, a0_5⟩ : S28), a0_6, a0_7⟩ : S30) [.int .i64 a0_0, .int .i64 a0_1, .int .i64 a0_2, .int .i64 a0_3, .int .i64 a0_4, .string a0_5, .int .i64 a0_6, .int .i64 a0_7] from (k30_mkM _ _ _ (⟨a0_0, a0_1, a0_2, (⟨a0_3, a0_4, a0_5⟩ : S28), a0_6, a0_7⟩ : S30) )) (Reps.none _ _))); intro v265 w7 ho8 hb hg_ hnew_; clear hg_ hnew_; (first | rw [← Ny264.out] at ho8 | (simp only [Int.reduceToNat] at ho8; rw [← Ny264.out] at ho8)); have n0_ := Aside0.mk (Kd.R_lower (Kd.R_newB ho8 (g := gb263) (o := .cells #[.int .i64 a0_0, .int .i64 a0_1, .int .i64 a0_2, .int .i64 a0_3, .int .i64 a0_4, .string a0_5, .int .i64 a0_6, .int .i64 a0_7] 30 (0, 0)) (by (with_reducible repeat (first | refine blk_drewN ?_ _ | refine blk_drew ?_ | refine blk_alloc ?_ _)); exact BK263.out)) (below_size (by repeat (first | (with_reducible first | exact HB.out | apply below_alloc | apply pw_below_drewN | apply below_drew1 | refine below_set ?_ GE263.out) | exact HB.out)))); have n1_ := Aside0.mk (blk_below (g := gb263) (o := .cells #[.int .i64 a0_0, .int .i64 a0_1, .int .i64 a0_2, .int .i64 a0_3, .int .i64 a0_4, .string a0_5, .int .i64 a0_6, .int .i64 a0_7] 30 (0, 0)) (by (with_reducible repeat (first | refine blk_drewN ?_ _ | refine blk_drew ?_ | refine blk_alloc ?_ _)); exact BK263.out) hb); have n2_ := Aside0.mk (below_step (by repeat (first | (with_reducible first | exact HB.out | apply below_alloc | apply pw_below_drewN | apply below_drew1 | refine below_set ?_ GE263.out) | exact HB.out)) hb); clear BK263; clear HB; have HO266 := n0_; have BK263 := n1_; have HB := n2_; clear n0_ n1_ n2_; clear hb ho8; obtain ⟨Ao9, co9, eo9⟩ := Kd.R_slice HO266.out; subst eo9) | ((with_reducible refine gate_callee (f := 10) rfl ?_); refine goesL_ (some 5) rfl rfl Try.func10 (by kernel_rfl) rfl #[.slice Ao9 y264.length co9] rfl (by (try simp only [List.map_toArray, List.map_cons, List.map_nil]); first | done | rfl | (simp only [List.length_drop, List.length_take]; rfl)) ?_; (with_reducible refine (impl_RulesOk.calls k _ _ y264 true _ ?side1 ?side2 A2.out).mono ?_); (case side1 => repeat (first | exact (Kd.R_reads' HO266.out).2.2 | (with_reducible refine Kd.C_alloc ?_ _) | (with_reducible refine Kd.C_drewN ?_ _) | (with_reducible refine Kd.C_drew ?_))); (case side2 => exact (Kd.R_reads' HO266.out).2.1); rintro e w10 ⟨rfl, hb⟩; refine ⟨_, rfl, ?_⟩; have n0_ := Aside0.mk (Kd.R_below (by (with_reducible repeat (first | apply Kd.R_alloc | apply Kd.R_drewN | apply Kd.R_drew)); exact HO266.out) hb); have n1_ := Aside0.mk (blk_below (g := gb263) (o := .cells #[.int .i64 a0_0, .int .i64 a0_1, .int .i64 a0_2, .int .i64 a0_3, .int .i64 a0_4, .string a0_5, .int .i64 a0_6, .int .i64 a0_7] 30 (0, 0)) (by (with_reducible repeat (first | refine blk_drewN ?_ _ | refine blk_drew ?_ | refine blk_alloc ?_ _)); exact BK263.out) hb); have n2_ := Aside0.mk (below_step (by repeat (first | (with_reducible first | exact HB.out | apply below_alloc | apply pw_below_drewN | apply below_drew1 | refine below_set ?_ GE263.out) | exact HB.out)) hb); clear HO266; clear BK263; clear HB; have HO266 := n0_; have BK263 := n1_; have HB := n2_; clear n0_ n1_ n2_; (try clear hb); (try clear hb2); (try clear hk); (try clear hi); have hcz11_0 : w10.cell? ⟨gb263, 0, none⟩ = some (.int .i64 a0_0) := (blk_cell BK263.out 0).trans rfl; have hcz11_1 : w10.cell? ⟨gb263, 1, none⟩ = some (.int .i64 a0_1) := (blk_cell BK263.out 1).trans rfl; have hcz11_2 : w10.cell? ⟨gb263, 2, none⟩ = some (.int .i64 a0_2) := (blk_cell BK263.out 2).trans rfl; have hcz11_3 : w10.cell? ⟨gb263, 3, none⟩ = some (.int .i64 a0_3) := (blk_cell BK263.out 3).trans rfl; have hcz11_4 : w10.cell? ⟨gb263, 4, none⟩ = some (.int .i64 a0_4) := (blk_cell BK263.out 4).trans rfl; have hcz11_5 : w10.cell? ⟨gb263, 5, none⟩ = some (.string a0_5) := (blk_cell BK263.out 5).trans rfl; have hcz11_6 : w10.cell? ⟨gb263, 6, none⟩ = some (.int .i64 a0_6) := (blk_cell BK263.out 6).trans rfl; have hcz11_7 : w10.cell? ⟨gb263, 7, none⟩ = some (.int .i64 a0_7) := (blk_cell BK263.out 7).trans rfl; have hfz11_0 := blk_frozen BK263.out 0; have hfz11_1 := blk_frozen BK263.out 1; have hfz11_2 := blk_frozen BK263.out 2; have hfz11_3 := blk_frozen BK263.out 3; have hfz11_4 := blk_frozen BK263.out 4; have hfz11_5 := blk_frozen BK263.out 5; have hfz11_6 := blk_frozen BK263.out 6; have hfz11_7 := blk_frozen BK263.out 7) | ((with_reducible refine gate_callee (f := 39) rfl ?_); refine goesL_ (some 8) rfl rfl Try.func39 (by kernel_rfl) rfl #[.agg #[.int .i64 a0_0, .int .i64 a0_1, .int .i64 a0_2, .int .i64 a0_3, .int .i64 a0_4, .string a0_5, .int .i64 a0_6, .int .i64 a0_7]] rfl (by (try simp only [List.map_toArray, List.map_cons, List.map_nil]); first | done | rfl | (simp only [List.length_drop, List.length_take]; rfl)) ?_; (with_reducible refine (impl_weight.calls k a0_0 a0_1 a0_2 a0_3 a0_4 a0_5 a0_6 a0_7 t268 _ A4.out).mono ?_); rintro e w12 ⟨rfl, hb⟩; refine ⟨_, rfl, ?_⟩; have n0_ := Aside0.mk (Kd.R_below (by (with_reducible repeat (first | apply Kd.R_alloc | apply Kd.R_drewN | apply Kd.R_drew)); exact HO266.out) hb); have n1_ := Aside0.mk (blk_below (g := gb263) (o := .cells #[.int .i64 a0_0, .int .i64 a0_1, .int .i64 a0_2, .int .i64 a0_3, .int .i64 a0_4, .string a0_5, .int .i64 a0_6, .int .i64 a0_7] 30 (0, 0)) (by (with_reducible repeat (first | refine blk_drewN ?_ _ | refine blk_drew ?_ | refine blk_alloc ?_ _)); exact BK263.out) hb); have n2_ := Aside0.mk (below_step (by repeat (first | (with_reducible first | exact HB.out | apply below_alloc | apply pw_below_drewN | apply below_drew1 | refine below_set ?_ GE263.out) | exact HB.out)) hb); clear HO266; clear BK263; clear HB; have HO266 := n0_; have BK263 := n1_; have HB := n2_; clear n0_ n1_ n2_; (try clear hb); (try clear hb2); (try clear hk); (try clear hi)))
    go_ret
    exact ⟨by first | rfl | (simp [errW_none, errW_some] <;> rfl) | (simp [*, errW_none, errW_some] <;> rfl), by repeat (first | (with_reducible first | exact HB.out | apply below_alloc | apply pw_below_drewN | apply below_drew1 | refine below_set ?_ GE263.out) | exact HB.out)⟩
  · replace c3 := Bool.eq_false_iff.mpr c3
    subst c3
    have H1 : (some (-1)) = some r := by rw [if_neg (show ¬ (false = true) by decide)] at H; exact H
    clear H
    have H := H1
    clear H1
    obtain rfl := Option.some.inj H
    go_enter Try.func13, Try.ntmps13
    go_wp2_with (first | ((with_reducible refine gate_dst (N := 1) rfl ?_); refine box_event ?hg (N := 1) ?hd (cs := #[.int .i64 a0_0, .int .i64 a0_1, .int .i64 a0_2, .int .i64 a0_3, .int .i64 a0_4, .string a0_5, .int .i64 a0_6, .int .i64 a0_7]) (t := 30) ?hr ?_; (case hd => rfl); (case hg => rfl); (case hr => first | (go_simp; done) | (go_simp; rfl)); intro gb263 hg w13 hbox hb; have n0_ := Aside0.mk (below_step (by repeat (first | (with_reducible first | exact HB.out | apply below_alloc | apply pw_below_drewN | apply below_drew1) | exact HB.out)) hb); have n1_ := Aside0.mk (hbox); have n2_ := Aside0.mk ((by rw [hg]; exact (below_size (by repeat (first | (with_reducible first | exact HB.out | apply below_alloc | apply pw_below_drewN | apply below_drew1) | exact HB.out))) : w.heap.size ≤ gb263)); have n3_ := Aside0.mk ((by rw [hg]; exact (below_size (by repeat (first | (with_reducible first | exact HB.out | apply below_alloc | apply pw_below_drewN | apply below_drew1) | exact HB.out))) : w.heap.size ≤ gb263)); clear HB; have HB := n0_; have BK263 := n1_; have GW263 := n2_; have GE263 := n3_; clear n0_ n1_ n2_ n3_; clear hb hbox hg; have hcz14_0 : w13.cell? ⟨gb263, 0, none⟩ = some (.int .i64 a0_0) := (blk_cell BK263.out 0).trans rfl; have hcz14_1 : w13.cell? ⟨gb263, 1, none⟩ = some (.int .i64 a0_1) := (blk_cell BK263.out 1).trans rfl; have hcz14_2 : w13.cell? ⟨gb263, 2, none⟩ = some (.int .i64 a0_2) := (blk_cell BK263.out 2).trans rfl; have hcz14_3 : w13.cell? ⟨gb263, 3, none⟩ = some (.int .i64 a0_3) := (blk_cell BK263.out 3).trans rfl; have hcz14_4 : w13.cell? ⟨gb263, 4, none⟩ = some (.int .i64 a0_4) := (blk_cell BK263.out 4).trans rfl; have hcz14_5 : w13.cell? ⟨gb263, 5, none⟩ = some (.string a0_5) := (blk_cell BK263.out 5).trans rfl; have hcz14_6 : w13.cell? ⟨gb263, 6, none⟩ = some (.int .i64 a0_6) := (blk_cell BK263.out 6).trans rfl; have hcz14_7 : w13.cell? ⟨gb263, 7, none⟩ = some (.int .i64 a0_7) := (blk_cell BK263.out 7).trans rfl; have hfz14_0 := blk_frozen BK263.out 0; have hfz14_1 := blk_frozen BK263.out 1; have hfz14_2 := blk_frozen BK263.out 2; have hfz14_3 := blk_frozen BK263.out 3; have hfz14_4 := blk_frozen BK263.out 4; have hfz14_5 := blk_frozen BK263.out 5; have hfz14_6 := blk_frozen BK263.out 6; have hfz14_7 := blk_frozen BK263.out 7) | ((with_reducible refine gate_dst (N := 4) rfl ?_); refine Kd.R_lit k30 _ 30 ?hg (N := 4) ?hd (xs := ([(⟨a0_0, a0_1, a0_2, (⟨a0_3, a0_4, a0_5⟩ : S28), a0_6, a0_7⟩ : S30)] : List (S30))) (inner := [.int .i64 a0_0, .int .i64 a0_1, .int .i64 a0_2, .int .i64 a0_3, .int .i64 a0_4, .string a0_5, .int .i64 a0_6, .int .i64 a0_7]) (ok := fun _ => True) (okp := fun _ => True) ?hr ?hp (fun _ hk => hk) trivial (Below.refl _ _) (Nat.le_refl _) (by simp) ?_; (case hd => rfl); (case hg => rfl); (case hr => first | (go_simp; done) | (go_simp; rfl)); (case hp => exact (Reps.c8 (show Kd.M k30 _ _ _ (⟨a0_0, a0_1, a0_2, (⟨a0_3, a0_4, a0_5⟩ : S28), a0_6, a0_7⟩ : S30) [.int .i64 a0_0, .int .i64 a0_1, .int .i64 a0_2, .int .i64 a0_3, .int .i64 a0_4, .string a0_5, .int .i64 a0_6, .int .i64 a0_7] from (k30_mkM _ _ _ (⟨a0_0, a0_1, a0_2, (⟨a0_3, a0_4, a0_5⟩ : S28), a0_6, a0_7⟩ : S30) )) (Reps.none _ _))); intro v265 w15 ho16 hb hg_ hnew_; clear hg_ hnew_; (first | rw [← Ny264.out] at ho16 | (simp only [Int.reduceToNat] at ho16; rw [← Ny264.out] at ho16)); have n0_ := Aside0.mk (Kd.R_lower (Kd.R_newB ho16 (g := gb263) (o := .cells #[.int .i64 a0_0, .int .i64 a0_1, .int .i64 a0_2, .int .i64 a0_3, .int .i64 a0_4, .string a0_5, .int .i64 a0_6, .int .i64 a0_7] 30 (0, 0)) (by (with_reducible repeat (first | refine blk_drewN ?_ _ | refine blk_drew ?_ | refine blk_alloc ?_ _)); exact BK263.out)) (below_size (by repeat (first | (with_reducible first | exact HB.out | apply below_alloc | apply pw_below_drewN | apply below_drew1 | refine below_set ?_ GE263.out) | exact HB.out)))); have n1_ := Aside0.mk (blk_below (g := gb263) (o := .cells #[.int .i64 a0_0, .int .i64 a0_1, .int .i64 a0_2, .int .i64 a0_3, .int .i64 a0_4, .string a0_5, .int .i64 a0_6, .int .i64 a0_7] 30 (0, 0)) (by (with_reducible repeat (first | refine blk_drewN ?_ _ | refine blk_drew ?_ | refine blk_alloc ?_ _)); exact BK263.out) hb); have n2_ := Aside0.mk (below_step (by repeat (first | (with_reducible first | exact HB.out | apply below_alloc | apply pw_below_drewN | apply below_drew1 | refine below_set ?_ GE263.out) | exact HB.out)) hb); clear BK263; clear HB; have HO266 := n0_; have BK263 := n1_; have HB := n2_; clear n0_ n1_ n2_; clear hb ho16; obtain ⟨Ao17, co17, eo17⟩ := Kd.R_slice HO266.out; subst eo17) | ((with_reducible refine gate_callee (f := 10) rfl ?_); refine goesL_ (some 5) rfl rfl Try.func10 (by kernel_rfl) rfl #[.slice Ao17 y264.length co17] rfl (by (try simp only [List.map_toArray, List.map_cons, List.map_nil]); first | done | rfl | (simp only [List.length_drop, List.length_take]; rfl)) ?_; (with_reducible refine (impl_RulesOk.calls k _ _ y264 false _ ?side1 ?side2 A2.out).mono ?_); (case side1 => repeat (first | exact (Kd.R_reads' HO266.out).2.2 | (with_reducible refine Kd.C_alloc ?_ _) | (with_reducible refine Kd.C_drewN ?_ _) | (with_reducible refine Kd.C_drew ?_))); (case side2 => exact (Kd.R_reads' HO266.out).2.1); rintro e w18 ⟨rfl, hb⟩; refine ⟨_, rfl, ?_⟩; have n0_ := Aside0.mk (Kd.R_below (by (with_reducible repeat (first | apply Kd.R_alloc | apply Kd.R_drewN | apply Kd.R_drew)); exact HO266.out) hb); have n1_ := Aside0.mk (blk_below (g := gb263) (o := .cells #[.int .i64 a0_0, .int .i64 a0_1, .int .i64 a0_2, .int .i64 a0_3, .int .i64 a0_4, .string a0_5, .int .i64 a0_6, .int .i64 a0_7] 30 (0, 0)) (by (with_reducible repeat (first | refine blk_drewN ?_ _ | refine blk_drew ?_ | refine blk_alloc ?_ _)); exact BK263.out) hb); have n2_ := Aside0.mk (below_step (by repeat (first | (with_reducible first | exact HB.out | apply below_alloc | apply pw_below_drewN | apply below_drew1 | refine below_set ?_ GE263.out) | exact HB.out)) hb); clear HO266; clear BK263; clear HB; have HO266 := n0_; have BK263 := n1_; have HB := n2_; clear n0_ n1_ n2_; (try clear hb); (try clear hb2); (try clear hk); (try clear hi)))
    go_ret
    exact ⟨by first | rfl | (simp [errW_none, errW_some] <;> rfl) | (simp [*, errW_none, errW_some] <;> rfl), by repeat (first | (with_reducible first | exact HB.out | apply below_alloc | apply pw_below_drewN | apply below_drew1 | refine below_set ?_ GE263.out) | exact HB.out)⟩

end Go.Proofs.Ytheifobeaemegaa.PFnRuleWeight
