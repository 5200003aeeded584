/- Walks of the functions that the law 'FnExactRulesOk' reaches, part 3: for each a Lean function and the proof that Go's comes to just its answer (lines of the print, under own names; no condition). -/
import Derived.Test.YtnihohgbhnhbjaaQFnExactRulesOkx0
import Derived.Test.YtnihohgbhnhbjaaQFnExactRulesOkx1
import Derived.Test.YtnihohgbhnhbjaaQFnExactRulesOkx2
namespace Go.Proofs.Ytnihohgbhnhbjaa.PFnExactRulesOk
open Go.RowKit Go.Proofs.YtnihohgbhnhbjaaW.PrintWords Go.Proofs.YtnihohgbhnhbjaaW.PrintLast Go.Proofs.YtnihohgbhnhbjaaW.PrintMore
attribute [local go_sem] max2_int min2_int max_two min_two max_three min_three max_four min_four   -- for this text's walks alone
set_option linter.unusedVariables false
set_option linter.unusedSimpArgs false

attribute [local go_sem high] eqA39
/-! ### impl_RulesOk: function 23 -/
mutual
def impl_RulesOk.l0 : Nat → List (S41) → List (S41) → Int → Int → Option (Bool)
  | 0, _, _, _, _ => none
  | k + 1, x0, x5, x6, x7 => if x7 < x6 then (if 0 ≤ x7 then (if x7 < (x5.length : Int) then ((impl_within.f ((rd_T41 x5 x7).f0) (-1) 4).bind fun t106 => (if t106 = true then ((impl_within.f ((rd_T41 x5 x7).f1) (-1) 4).bind fun t107 => (if t107 = true then ((impl_within.f ((rd_T41 x5 x7).f2) (-1) 3).bind fun t108 => (if t108 = true then ((impl_within.f ((rd_T41 x5 x7).f4) 0 4).bind fun t109 => (if t109 = true then ((impl_within.f ((rd_T41 x5 x7).f5) 0 60).bind fun t110 => (impl_RulesOk.j1 k x0 x5 x6 x7 (!t110) ((rd_T41 x5 x7).f0) ((rd_T41 x5 x7).f1) ((rd_T41 x5 x7).f2) ((rd_T41 x5 x7).f3.f0) ((rd_T41 x5 x7).f3.f1) ((rd_T41 x5 x7).f3.f2) ((rd_T41 x5 x7).f4) ((rd_T41 x5 x7).f5))) else (impl_RulesOk.j1 k x0 x5 x6 x7 true ((rd_T41 x5 x7).f0) ((rd_T41 x5 x7).f1) ((rd_T41 x5 x7).f2) ((rd_T41 x5 x7).f3.f0) ((rd_T41 x5 x7).f3.f1) ((rd_T41 x5 x7).f3.f2) ((rd_T41 x5 x7).f4) ((rd_T41 x5 x7).f5)))) else (impl_RulesOk.j1 k x0 x5 x6 x7 true ((rd_T41 x5 x7).f0) ((rd_T41 x5 x7).f1) ((rd_T41 x5 x7).f2) ((rd_T41 x5 x7).f3.f0) ((rd_T41 x5 x7).f3.f1) ((rd_T41 x5 x7).f3.f2) ((rd_T41 x5 x7).f4) ((rd_T41 x5 x7).f5)))) else (impl_RulesOk.j1 k x0 x5 x6 x7 true ((rd_T41 x5 x7).f0) ((rd_T41 x5 x7).f1) ((rd_T41 x5 x7).f2) ((rd_T41 x5 x7).f3.f0) ((rd_T41 x5 x7).f3.f1) ((rd_T41 x5 x7).f3.f2) ((rd_T41 x5 x7).f4) ((rd_T41 x5 x7).f5)))) else (impl_RulesOk.j1 k x0 x5 x6 x7 true ((rd_T41 x5 x7).f0) ((rd_T41 x5 x7).f1) ((rd_T41 x5 x7).f2) ((rd_T41 x5 x7).f3.f0) ((rd_T41 x5 x7).f3.f1) ((rd_T41 x5 x7).f3.f2) ((rd_T41 x5 x7).f4) ((rd_T41 x5 x7).f5)))) else (none)) else (none)) else (some (decide ((x0.length : Int) ≤ 12)))
def impl_RulesOk.j1 : Nat → List (S41) → List (S41) → Int → Int → Bool → Int → Int → Int → Int → Int → ByteArray → Int → Int → Option (Bool)
  | 0, _, _, _, _, _, _, _, _, _, _, _, _, _ => none
  | k + 1, x0, x5, x6, x7, x38, x106000, x106001, x106002, x106003, x106004, x106005, x106006, x106007 => if x38 = true then (some false) else (if x106002 = (-1) then (if (!(x106003 == 0) || (!(x106004 == 0) || (!(x106005.toList == ([] : List UInt8))))) = true then (some false) else ((impl_ValOk.f k x106003 x106004 x106005).bind fun t111 => (if t111 = true then (impl_RulesOk.l0 k x0 x5 x6 (wrap64 (x7 + 1))) else (some false)))) else ((impl_ValOk.f k x106003 x106004 x106005).bind fun t112 => (if t112 = true then (impl_RulesOk.l0 k x0 x5 x6 (wrap64 (x7 + 1))) else (some false))))
end
def impl_RulesOk.f (k : Nat) (l0 : List (S41)) : Option (Bool) := impl_RulesOk.l0 k l0 l0 (l0.length : Int) 0
theorem impl_RulesOk.mono_l : ∀ k, (∀ y0 y1 y2 y3, LeO (impl_RulesOk.l0 k y0 y1 y2 y3) (impl_RulesOk.l0 (k + 1) y0 y1 y2 y3)) ∧ (∀ y0 y1 y2 y3 y4 y5 y6 y7 y8 y9 y10 y11 y12, LeO (impl_RulesOk.j1 k y0 y1 y2 y3 y4 y5 y6 y7 y8 y9 y10 y11 y12) (impl_RulesOk.j1 (k + 1) y0 y1 y2 y3 y4 y5 y6 y7 y8 y9 y10 y11 y12))
  | 0 => ⟨fun _ _ _ _ r h => by simp [impl_RulesOk.l0] at h, fun _ _ _ _ _ _ _ _ _ _ _ _ _ r h => by simp [impl_RulesOk.j1] at h⟩
  | k + 1 => by
    obtain ⟨ih0, ih1⟩ := impl_RulesOk.mono_l k
    refine ⟨?_, ?_⟩
    · intro y0 y1 y2 y3
      unfold impl_RulesOk.l0
      repeat' first
      | (with_reducible exact ih0 _ _ _ _)
      | (with_reducible exact ih1 _ _ _ _ _ _ _ _ _ _ _ _ _)
      | (with_reducible exact impl_ValOk.mono _ _ _ _)
      | (with_reducible exact LeO.refl _)
      | (with_reducible exact LeO.none _)
      | (with_reducible refine LeO.ite ?_ ?_)
      | (with_reducible refine LeO.bind ?_ (fun _ => ?_))
      | exact ih0 _ _ _ _
      | exact ih1 _ _ _ _ _ _ _ _ _ _ _ _ _
      | exact impl_ValOk.mono _ _ _ _
      | exact LeO.none _
      | refine LeO.ite ?_ ?_
      | refine LeO.bind ?_ (fun _ => ?_)
    · intro y0 y1 y2 y3 y4 y5 y6 y7 y8 y9 y10 y11 y12
      unfold impl_RulesOk.j1
      repeat' first
      | (with_reducible exact ih0 _ _ _ _)
      | (with_reducible exact ih1 _ _ _ _ _ _ _ _ _ _ _ _ _)
      | (with_reducible exact impl_ValOk.mono _ _ _ _)
      | (with_reducible exact LeO.refl _)
      | (with_reducible exact LeO.none _)
      | (with_reducible refine LeO.ite ?_ ?_)
      | (with_reducible refine LeO.bind ?_ (fun _ => ?_))
      | exact ih0 _ _ _ _
      | exact ih1 _ _ _ _ _ _ _ _ _ _ _ _ _
      | exact impl_ValOk.mono _ _ _ _
      | exact LeO.none _
      | refine LeO.ite ?_ ?_
      | refine LeO.bind ?_ (fun _ => ?_)
theorem impl_RulesOk.mono : ∀ a0 k, LeO (impl_RulesOk.f k a0) (impl_RulesOk.f (k + 1) a0) := by
  intro a0 k
  obtain ⟨ih0, ih1⟩ := impl_RulesOk.mono_l k
  unfold impl_RulesOk.f
  repeat' first
      | (with_reducible exact ih0 _ _ _ _)
      | (with_reducible exact ih1 _ _ _ _ _ _ _ _ _ _ _ _ _)
      | (with_reducible exact impl_ValOk.mono _ _ _ _)
      | (with_reducible exact LeO.refl _)
      | (with_reducible exact LeO.none _)
      | (with_reducible refine LeO.ite ?_ ?_)
      | (with_reducible refine LeO.bind ?_ (fun _ => ?_))
      | exact ih0 _ _ _ _
      | exact ih1 _ _ _ _ _ _ _ _ _ _ _ _ _
      | exact impl_ValOk.mono _ _ _ _
      | exact LeO.none _
      | refine LeO.ite ?_ ?_
      | refine LeO.bind ?_ (fun _ => ?_)
set_option maxHeartbeats 8000000 in
set_option maxRecDepth 100000 in
theorem impl_RulesOk.calls (k : Nat) (A0 : Option Addr) (c0 : Nat) (l0 : List (S41)) (r : Bool) (w : World) (hr0 : Kd.C k41 w A0 l0.length l0) (hc0 : l0.length ≤ c0) (h : impl_RulesOk.f k l0 = some r) :
    Calls Try.prog 23 #[.slice A0 l0.length c0] w fun e w' => e = .returned (.bool r) ∧ Below w.heap.size w w' := by
  have hu41 := Try.underlying41
  have hu39 := Try.underlying39
  have HR0 := Aside0.mk hr0
  have HC0 := Aside0.mk hc0
  clear hr0 hc0
  have HB := Aside0.mk (Below.refl w.heap.size w)
  have H : (impl_RulesOk.l0 k l0 l0 (l0.length : Int) 0) = some r := h
  clear h
  have H' := Aside0.mk H
  clear H
  go_enter Try.func23, Try.ntmps23
  go_wp2
  go_loopg [7] k (fun kq v7 w' => ∃ (x7_1 : Int), v7 = .int .i64 x7_1 ∧ Aside0 (impl_RulesOk.l0 kq l0 l0 (l0.length : Int) x7_1 = some r) ∧ Aside0 (kq ≤ k) ∧ Aside0 (Below w.heap.size w w'))
  case atStart => exact ⟨(0), (by first | rfl | (simp; done) | (simp [*]; done)), H', ⟨Nat.le_refl _⟩, ⟨by repeat (first | (with_reducible first | exact HB.out | apply below_alloc | apply pw_below_drewN | apply below_drew1) | exact HB.out)⟩⟩
  case round =>
    clear H'
    obtain ⟨x7_1, rfl, HA, HK1, HB⟩ := hrel
    cases gk with
    | zero => exact absurd HA.out (by simp [impl_RulesOk.l0])
    | succ k1 =>
      have H := HA.out
      clear HA
      simp only [impl_RulesOk.l0] at H
      by_cases c2 : x7_1 < (l0.length : Int)
      · rw [if_pos c2] at H
        have c2b0 : decide (x7_1 < (l0.length : Int)) = true := decide_eq_true c2
        clear c2
        by_cases c3 : 0 ≤ x7_1
        · rw [if_pos c3] at H
          have c3b0 : decide (0 ≤ x7_1) = true := decide_eq_true c3
          clear c3
          by_cases c4 : x7_1 < (l0.length : Int)
          · rw [if_pos c4] at H
            have c4b0 : decide (x7_1 < (l0.length : Int)) = true := decide_eq_true c4
            clear c4
            have HC5 := Aside0.mk H
            clear H
            have p104 : 0 ≤ (x7_1 : Int) := of_decide_eq_true (by first | (with_reducible assumption) | assumption)
            have q104 : x7_1 < (l0.length : Int) := of_decide_eq_true (by first | (with_reducible assumption) | assumption)
            obtain ⟨ad104, e104, hx104_0, hx104_1, hx104_2, hx104_3, hx104_4, hx104_5, hx104_6, hx104_7⟩ := at_T41 HR0.out x7_1 p104 q104
            cases e104
            replace hx104_0 := (HB.out.cell (World.block_lt_of_cell? w _ hx104_0)).trans hx104_0
            replace hx104_1 := (HB.out.cell (World.block_lt_of_cell? w _ hx104_1)).trans hx104_1
            replace hx104_2 := (HB.out.cell (World.block_lt_of_cell? w _ hx104_2)).trans hx104_2
            replace hx104_3 := (HB.out.cell (World.block_lt_of_cell? w _ hx104_3)).trans hx104_3
            replace hx104_4 := (HB.out.cell (World.block_lt_of_cell? w _ hx104_4)).trans hx104_4
            replace hx104_5 := (HB.out.cell (World.block_lt_of_cell? w _ hx104_5)).trans hx104_5
            replace hx104_6 := (HB.out.cell (World.block_lt_of_cell? w _ hx104_6)).trans hx104_6
            replace hx104_7 := (HB.out.cell (World.block_lt_of_cell? w _ hx104_7)).trans hx104_7
            replace p104 := eq_true p104
            replace q104 := eq_true q104
            go_upto_region 4 with (first | ((with_reducible refine gate_dst (N := 4) rfl ?_); refine box_event ?hg (N := 4) ?hd (cs := #[.int .i64 0, .int .i64 0, .int .i64 0, .int .i64 0, .int .i64 0, .string (⟨#[]⟩ : ByteArray), .int .i64 0, .int .i64 0]) (t := 41) ?hr ?_; (case hd => rfl); (case hg => rfl); (case hr => first | (go_simp; done) | (go_simp; rfl)); intro gb105 hg w6 hbox hb; have n0_ := Aside0.mk (below_step (by repeat (first | (with_reducible first | exact HB.out | apply below_alloc | apply pw_below_drewN | apply below_drew1) | exact HB.out)) hb); have n1_ := Aside0.mk (hbox); have n2_ := Aside0.mk ((by rw [hg]; exact (below_size (by repeat (first | (with_reducible first | exact HB.out | apply below_alloc | apply pw_below_drewN | apply below_drew1) | exact HB.out))) : w.heap.size ≤ gb105)); have n3_ := Aside0.mk ((by rw [hg]; exact (below_size (by repeat (first | (with_reducible first | exact HB.out | apply below_alloc | apply pw_below_drewN | apply below_drew1) | exact HB.out))) : w.heap.size ≤ gb105)); clear HB; have HB := n0_; have BK105 := n1_; have GW105 := n2_; have GE105 := n3_; clear n0_ n1_ n2_ n3_; clear hb hbox hg; have hcz7_0 : w6.cell? ⟨gb105, 0, none⟩ = some (.int .i64 0) := (blk_cell BK105.out 0).trans rfl; have hcz7_1 : w6.cell? ⟨gb105, 1, none⟩ = some (.int .i64 0) := (blk_cell BK105.out 1).trans rfl; have hcz7_2 : w6.cell? ⟨gb105, 2, none⟩ = some (.int .i64 0) := (blk_cell BK105.out 2).trans rfl; have hcz7_3 : w6.cell? ⟨gb105, 3, none⟩ = some (.int .i64 0) := (blk_cell BK105.out 3).trans rfl; have hcz7_4 : w6.cell? ⟨gb105, 4, none⟩ = some (.int .i64 0) := (blk_cell BK105.out 4).trans rfl; have hcz7_5 : w6.cell? ⟨gb105, 5, none⟩ = some (.string (⟨#[]⟩ : ByteArray)) := (blk_cell BK105.out 5).trans rfl; have hcz7_6 : w6.cell? ⟨gb105, 6, none⟩ = some (.int .i64 0) := (blk_cell BK105.out 6).trans rfl; have hcz7_7 : w6.cell? ⟨gb105, 7, none⟩ = some (.int .i64 0) := (blk_cell BK105.out 7).trans rfl; have hfz7_0 := blk_frozen BK105.out 0; have hfz7_1 := blk_frozen BK105.out 1; have hfz7_2 := blk_frozen BK105.out 2; have hfz7_3 := blk_frozen BK105.out 3; have hfz7_4 := blk_frozen BK105.out 4; have hfz7_5 := blk_frozen BK105.out 5; have hfz7_6 := blk_frozen BK105.out 6; have hfz7_7 := blk_frozen BK105.out 7))
            (try simp only [Act.put, List.setIfInBounds_toArray, List.set_cons_zero, List.set_cons_succ])
            go_cut [38] (fun v38 wc => ∃ (kq : Nat) (x38_4 : Bool), v38 = .bool x38_4 ∧ Aside0 (impl_RulesOk.j1 kq l0 l0 (l0.length : Int) x7_1 x38_4 ((rd_T41 l0 x7_1).f0) ((rd_T41 l0 x7_1).f1) ((rd_T41 l0 x7_1).f2) ((rd_T41 l0 x7_1).f3.f0) ((rd_T41 l0 x7_1).f3.f1) ((rd_T41 l0 x7_1).f3.f2) ((rd_T41 l0 x7_1).f4) ((rd_T41 l0 x7_1).f5) = some r) ∧ Aside0 (kq ≤ k1) ∧ Aside0 (wc.heap[gb105]? = some (.cells #[.int .i64 ((rd_T41 l0 x7_1).f0), .int .i64 ((rd_T41 l0 x7_1).f1), .int .i64 ((rd_T41 l0 x7_1).f2), .int .i64 ((rd_T41 l0 x7_1).f3.f0), .int .i64 ((rd_T41 l0 x7_1).f3.f1), .string ((rd_T41 l0 x7_1).f3.f2), .int .i64 ((rd_T41 l0 x7_1).f4), .int .i64 ((rd_T41 l0 x7_1).f5)] 41 (0, 0))) ∧ Aside0 (Below w.heap.size w wc))
            case first =>
              have H := HC5.out
              clear HC5
              replace H := Option.bind_eq_some_iff.mp H
              obtain ⟨t106, A80, H⟩ := H
              replace H : (if t106 = true then ((impl_within.f ((rd_T41 l0 x7_1).f1) (-1) 4).bind fun t107 => (if t107 = true then ((impl_within.f ((rd_T41 l0 x7_1).f2) (-1) 3).bind fun t108 => (if t108 = true then ((impl_within.f ((rd_T41 l0 x7_1).f4) 0 4).bind fun t109 => (if t109 = true then ((impl_within.f ((rd_T41 l0 x7_1).f5) 0 60).bind fun t110 => (impl_RulesOk.j1 k1 l0 l0 (l0.length : Int) x7_1 (!t110) ((rd_T41 l0 x7_1).f0) ((rd_T41 l0 x7_1).f1) ((rd_T41 l0 x7_1).f2) ((rd_T41 l0 x7_1).f3.f0) ((rd_T41 l0 x7_1).f3.f1) ((rd_T41 l0 x7_1).f3.f2) ((rd_T41 l0 x7_1).f4) ((rd_T41 l0 x7_1).f5))) else (impl_RulesOk.j1 k1 l0 l0 (l0.length : Int) x7_1 true ((rd_T41 l0 x7_1).f0) ((rd_T41 l0 x7_1).f1) ((rd_T41 l0 x7_1).f2) ((rd_T41 l0 x7_1).f3.f0) ((rd_T41 l0 x7_1).f3.f1) ((rd_T41 l0 x7_1).f3.f2) ((rd_T41 l0 x7_1).f4) ((rd_T41 l0 x7_1).f5)))) else (impl_RulesOk.j1 k1 l0 l0 (l0.length : Int) x7_1 true ((rd_T41 l0 x7_1).f0) ((rd_T41 l0 x7_1).f1) ((rd_T41 l0 x7_1).f2) ((rd_T41 l0 x7_1).f3.f0) ((rd_T41 l0 x7_1).f3.f1) ((rd_T41 l0 x7_1).f3.f2) ((rd_T41 l0 x7_1).f4) ((rd_T41 l0 x7_1).f5)))) else (impl_RulesOk.j1 k1 l0 l0 (l0.length : Int) x7_1 true ((rd_T41 l0 x7_1).f0) ((rd_T41 l0 x7_1).f1) ((rd_T41 l0 x7_1).f2) ((rd_T41 l0 x7_1).f3.f0) ((rd_T41 l0 x7_1).f3.f1) ((rd_T41 l0 x7_1).f3.f2) ((rd_T41 l0 x7_1).f4) ((rd_T41 l0 x7_1).f5)))) else (impl_RulesOk.j1 k1 l0 l0 (l0.length : Int) x7_1 true ((rd_T41 l0 x7_1).f0) ((rd_T41 l0 x7_1).f1) ((rd_T41 l0 x7_1).f2) ((rd_T41 l0 x7_1).f3.f0) ((rd_T41 l0 x7_1).f3.f1) ((rd_T41 l0 x7_1).f3.f2) ((rd_T41 l0 x7_1).f4) ((rd_T41 l0 x7_1).f5))) = some r := H
              have A8 := Aside0.mk A80
              clear A80
              by_cases c9 : t106 = true
              · subst c9
                have H1 : ((impl_within.f ((rd_T41 l0 x7_1).f1) (-1) 4).bind fun t107 => (if t107 = true then ((impl_within.f ((rd_T41 l0 x7_1).f2) (-1) 3).bind fun t108 => (if t108 = true then ((impl_within.f ((rd_T41 l0 x7_1).f4) 0 4).bind fun t109 => (if t109 = true then ((impl_within.f ((rd_T41 l0 x7_1).f5) 0 60).bind fun t110 => (impl_RulesOk.j1 k1 l0 l0 (l0.length : Int) x7_1 (!t110) ((rd_T41 l0 x7_1).f0) ((rd_T41 l0 x7_1).f1) ((rd_T41 l0 x7_1).f2) ((rd_T41 l0 x7_1).f3.f0) ((rd_T41 l0 x7_1).f3.f1) ((rd_T41 l0 x7_1).f3.f2) ((rd_T41 l0 x7_1).f4) ((rd_T41 l0 x7_1).f5))) else (impl_RulesOk.j1 k1 l0 l0 (l0.length : Int) x7_1 true ((rd_T41 l0 x7_1).f0) ((rd_T41 l0 x7_1).f1) ((rd_T41 l0 x7_1).f2) ((rd_T41 l0 x7_1).f3.f0) ((rd_T41 l0 x7_1).f3.f1) ((rd_T41 l0 x7_1).f3.f2) ((rd_T41 l0 x7_1).f4) ((rd_T41 l0 x7_1).f5)))) else (impl_RulesOk.j1 k1 l0 l0 (l0.length : Int) x7_1 true ((rd_T41 l0 x7_1).f0) ((rd_T41 l0 x7_1).f1) ((rd_T41 l0 x7_1).f2) ((rd_T41 l0 x7_1).f3.f0) ((rd_T41 l0 x7_1).f3.f1) ((rd_T41 l0 x7_1).f3.f2) ((rd_T41 l0 x7_1).f4) ((rd_T41 l0 x7_1).f5)))) else (impl_RulesOk.j1 k1 l0 l0 (l0.length : Int) x7_1 true ((rd_T41 l0 x7_1).f0) ((rd_T41 l0 x7_1).f1) ((rd_T41 l0 x7_1).f2) ((rd_T41 l0 x7_1).f3.f0) ((rd_T41 l0 x7_1).f3.f1) ((rd_T41 l0 x7_1).f3.f2) ((rd_T41 l0 x7_1).f4) ((rd_T41 l0 x7_1).f5)))) = some r := by rw [if_pos rfl] at H; exact H
                clear H
                have H := H1
                clear H1
                replace H := Option.bind_eq_some_iff.mp H
                obtain ⟨t107, A100, H⟩ := H
                replace H : (if t107 = true then ((impl_within.f ((rd_T41 l0 x7_1).f2) (-1) 3).bind fun t108 => (if t108 = true then ((impl_within.f ((rd_T41 l0 x7_1).f4) 0 4).bind fun t109 => (if t109 = true then ((impl_within.f ((rd_T41 l0 x7_1).f5) 0 60).bind fun t110 => (impl_RulesOk.j1 k1 l0 l0 (l0.length : Int) x7_1 (!t110) ((rd_T41 l0 x7_1).f0) ((rd_T41 l0 x7_1).f1) ((rd_T41 l0 x7_1).f2) ((rd_T41 l0 x7_1).f3.f0) ((rd_T41 l0 x7_1).f3.f1) ((rd_T41 l0 x7_1).f3.f2) ((rd_T41 l0 x7_1).f4) ((rd_T41 l0 x7_1).f5))) else (impl_RulesOk.j1 k1 l0 l0 (l0.length : Int) x7_1 true ((rd_T41 l0 x7_1).f0) ((rd_T41 l0 x7_1).f1) ((rd_T41 l0 x7_1).f2) ((rd_T41 l0 x7_1).f3.f0) ((rd_T41 l0 x7_1).f3.f1) ((rd_T41 l0 x7_1).f3.f2) ((rd_T41 l0 x7_1).f4) ((rd_T41 l0 x7_1).f5)))) else (impl_RulesOk.j1 k1 l0 l0 (l0.length : Int) x7_1 true ((rd_T41 l0 x7_1).f0) ((rd_T41 l0 x7_1).f1) ((rd_T41 l0 x7_1).f2) ((rd_T41 l0 x7_1).f3.f0) ((rd_T41 l0 x7_1).f3.f1) ((rd_T41 l0 x7_1).f3.f2) ((rd_T41 l0 x7_1).f4) ((rd_T41 l0 x7_1).f5)))) else (impl_RulesOk.j1 k1 l0 l0 (l0.length : Int) x7_1 true ((rd_T41 l0 x7_1).f0) ((rd_T41 l0 x7_1).f1) ((rd_T41 l0 x7_1).f2) ((rd_T41 l0 x7_1).f3.f0) ((rd_T41 l0 x7_1).f3.f1) ((rd_T41 l0 x7_1).f3.f2) ((rd_T41 l0 x7_1).f4) ((rd_T41 l0 x7_1).f5))) = some r := H
                have A10 := Aside0.mk A100
                clear A100
                by_cases c11 : t107 = true
                · subst c11
                  have H1 : ((impl_within.f ((rd_T41 l0 x7_1).f2) (-1) 3).bind fun t108 => (if t108 = true then ((impl_within.f ((rd_T41 l0 x7_1).f4) 0 4).bind fun t109 => (if t109 = true then ((impl_within.f ((rd_T41 l0 x7_1).f5) 0 60).bind fun t110 => (impl_RulesOk.j1 k1 l0 l0 (l0.length : Int) x7_1 (!t110) ((rd_T41 l0 x7_1).f0) ((rd_T41 l0 x7_1).f1) ((rd_T41 l0 x7_1).f2) ((rd_T41 l0 x7_1).f3.f0) ((rd_T41 l0 x7_1).f3.f1) ((rd_T41 l0 x7_1).f3.f2) ((rd_T41 l0 x7_1).f4) ((rd_T41 l0 x7_1).f5))) else (impl_RulesOk.j1 k1 l0 l0 (l0.length : Int) x7_1 true ((rd_T41 l0 x7_1).f0) ((rd_T41 l0 x7_1).f1) ((rd_T41 l0 x7_1).f2) ((rd_T41 l0 x7_1).f3.f0) ((rd_T41 l0 x7_1).f3.f1) ((rd_T41 l0 x7_1).f3.f2) ((rd_T41 l0 x7_1).f4) ((rd_T41 l0 x7_1).f5)))) else (impl_RulesOk.j1 k1 l0 l0 (l0.length : Int) x7_1 true ((rd_T41 l0 x7_1).f0) ((rd_T41 l0 x7_1).f1) ((rd_T41 l0 x7_1).f2) ((rd_T41 l0 x7_1).f3.f0) ((rd_T41 l0 x7_1).f3.f1) ((rd_T41 l0 x7_1).f3.f2) ((rd_T41 l0 x7_1).f4) ((rd_T41 l0 x7_1).f5)))) = some r := by rw [if_pos rfl] at H; exact H
                  clear H
                  have H := H1
                  clear H1
                  replace H := Option.bind_eq_some_iff.mp H
                  obtain ⟨t108, A120, H⟩ := H
                  replace H : (if t108 = true then ((impl_within.f ((rd_T41 l0 x7_1).f4) 0 4).bind fun t109 => (if t109 = true then ((impl_within.f ((rd_T41 l0 x7_1).f5) 0 60).bind fun t110 => (impl_RulesOk.j1 k1 l0 l0 (l0.length : Int) x7_1 (!t110) ((rd_T41 l0 x7_1).f0) ((rd_T41 l0 x7_1).f1) ((rd_T41 l0 x7_1).f2) ((rd_T41 l0 x7_1).f3.f0) ((rd_T41 l0 x7_1).f3.f1) ((rd_T41 l0 x7_1).f3.f2) ((rd_T41 l0 x7_1).f4) ((rd_T41 l0 x7_1).f5))) else (impl_RulesOk.j1 k1 l0 l0 (l0.length : Int) x7_1 true ((rd_T41 l0 x7_1).f0) ((rd_T41 l0 x7_1).f1) ((rd_T41 l0 x7_1).f2) ((rd_T41 l0 x7_1).f3.f0) ((rd_T41 l0 x7_1).f3.f1) ((rd_T41 l0 x7_1).f3.f2) ((rd_T41 l0 x7_1).f4) ((rd_T41 l0 x7_1).f5)))) else (impl_RulesOk.j1 k1 l0 l0 (l0.length : Int) x7_1 true ((rd_T41 l0 x7_1).f0) ((rd_T41 l0 x7_1).f1) ((rd_T41 l0 x7_1).f2) ((rd_T41 l0 x7_1).f3.f0) ((rd_T41 l0 x7_1).f3.f1) ((rd_T41 l0 x7_1).f3.f2) ((rd_T41 l0 x7_1).f4) ((rd_T41 l0 x7_1).f5))) = some r := H
                  have A12 := Aside0.mk A120
                  clear A120
                  by_cases c13 : t108 = true
                  · subst c13
                    have H1 : ((impl_within.f ((rd_T41 l0 x7_1).f4) 0 4).bind fun t109 => (if t109 = true then ((impl_within.f ((rd_T41 l0 x7_1).f5) 0 60).bind fun t110 => (impl_RulesOk.j1 k1 l0 l0 (l0.length : Int) x7_1 (!t110) ((rd_T41 l0 x7_1).f0) ((rd_T41 l0 x7_1).f1) ((rd_T41 l0 x7_1).f2) ((rd_T41 l0 x7_1).f3.f0) ((rd_T41 l0 x7_1).f3.f1) ((rd_T41 l0 x7_1).f3.f2) ((rd_T41 l0 x7_1).f4) ((rd_T41 l0 x7_1).f5))) else (impl_RulesOk.j1 k1 l0 l0 (l0.length : Int) x7_1 true ((rd_T41 l0 x7_1).f0) ((rd_T41 l0 x7_1).f1) ((rd_T41 l0 x7_1).f2) ((rd_T41 l0 x7_1).f3.f0) ((rd_T41 l0 x7_1).f3.f1) ((rd_T41 l0 x7_1).f3.f2) ((rd_T41 l0 x7_1).f4) ((rd_T41 l0 x7_1).f5)))) = some r := by rw [if_pos rfl] at H; exact H
                    clear H
                    have H := H1
                    clear H1
                    replace H := Option.bind_eq_some_iff.mp H
                    obtain ⟨t109, A140, H⟩ := H
                    replace H : (if t109 = true then ((impl_within.f ((rd_T41 l0 x7_1).f5) 0 60).bind fun t110 => (impl_RulesOk.j1 k1 l0 l0 (l0.length : Int) x7_1 (!t110) ((rd_T41 l0 x7_1).f0) ((rd_T41 l0 x7_1).f1) ((rd_T41 l0 x7_1).f2) ((rd_T41 l0 x7_1).f3.f0) ((rd_T41 l0 x7_1).f3.f1) ((rd_T41 l0 x7_1).f3.f2) ((rd_T41 l0 x7_1).f4) ((rd_T41 l0 x7_1).f5))) else (impl_RulesOk.j1 k1 l0 l0 (l0.length : Int) x7_1 true ((rd_T41 l0 x7_1).f0) ((rd_T41 l0 x7_1).f1) ((rd_T41 l0 x7_1).f2) ((rd_T41 l0 x7_1).f3.f0) ((rd_T41 l0 x7_1).f3.f1) ((rd_T41 l0 x7_1).f3.f2) ((rd_T41 l0 x7_1).f4) ((rd_T41 l0 x7_1).f5))) = some r := H
                    have A14 := Aside0.mk A140
                    clear A140
                    by_cases c15 : t109 = true
                    · subst c15
                      have H1 : ((impl_within.f ((rd_T41 l0 x7_1).f5) 0 60).bind fun t110 => (impl_RulesOk.j1 k1 l0 l0 (l0.length : Int) x7_1 (!t110) ((rd_T41 l0 x7_1).f0) ((rd_T41 l0 x7_1).f1) ((rd_T41 l0 x7_1).f2) ((rd_T41 l0 x7_1).f3.f0) ((rd_T41 l0 x7_1).f3.f1) ((rd_T41 l0 x7_1).f3.f2) ((rd_T41 l0 x7_1).f4) ((rd_T41 l0 x7_1).f5))) = some r := by rw [if_pos rfl] at H; exact H
                      clear H
                      have H := H1
                      clear H1
                      replace H := Option.bind_eq_some_iff.mp H
                      obtain ⟨t110, A160, H⟩ := H
                      replace H : (impl_RulesOk.j1 k1 l0 l0 (l0.length : Int) x7_1 (!t110) ((rd_T41 l0 x7_1).f0) ((rd_T41 l0 x7_1).f1) ((rd_T41 l0 x7_1).f2) ((rd_T41 l0 x7_1).f3.f0) ((rd_T41 l0 x7_1).f3.f1) ((rd_T41 l0 x7_1).f3.f2) ((rd_T41 l0 x7_1).f4) ((rd_T41 l0 x7_1).f5)) = some r := H
                      have A16 := Aside0.mk A160
                      clear A160
                      have H' := Aside0.mk H
                      clear H
                      have hcz17_0 : w6.cell? ⟨gb105, 0, none⟩ = some (.int .i64 0) := (blk_cell BK105.out 0).trans rfl
                      have hcz17_1 : w6.cell? ⟨gb105, 1, none⟩ = some (.int .i64 0) := (blk_cell BK105.out 1).trans rfl
                      have hcz17_2 : w6.cell? ⟨gb105, 2, none⟩ = some (.int .i64 0) := (blk_cell BK105.out 2).trans rfl
                      have hcz17_3 : w6.cell? ⟨gb105, 3, none⟩ = some (.int .i64 0) := (blk_cell BK105.out 3).trans rfl
                      have hcz17_4 : w6.cell? ⟨gb105, 4, none⟩ = some (.int .i64 0) := (blk_cell BK105.out 4).trans rfl
                      have hcz17_5 : w6.cell? ⟨gb105, 5, none⟩ = some (.string (⟨#[]⟩ : ByteArray)) := (blk_cell BK105.out 5).trans rfl
                      have hcz17_6 : w6.cell? ⟨gb105, 6, none⟩ = some (.int .i64 0) := (blk_cell BK105.out 6).trans rfl
                      have hcz17_7 : w6.cell? ⟨gb105, 7, none⟩ = some (.int .i64 0) := (blk_cell BK105.out 7).trans rfl
                      have hfz17_0 := blk_frozen BK105.out 0
                      have hfz17_1 := blk_frozen BK105.out 1
                      have hfz17_2 := blk_frozen BK105.out 2
                      have hfz17_3 := blk_frozen BK105.out 3
                      have hfz17_4 := blk_frozen BK105.out 4
                      have hfz17_5 := blk_frozen BK105.out 5
                      have hfz17_6 := blk_frozen BK105.out 6
                      have hfz17_7 := blk_frozen BK105.out 7
                      go_wp2_with (first | ((with_reducible refine gate_callee (f := 36) rfl ?_); refine goesL_ (some 13) rfl rfl Try.func36 (by kernel_rfl) rfl #[.int .i64 ((rd_T41 l0 x7_1).f0), .int .i64 (-1), .int .i64 4] rfl (by (try simp only [List.map_toArray, List.map_cons, List.map_nil]); first | done | rfl | (simp only [List.length_drop, List.length_take]; rfl)) ?_; (with_reducible refine (impl_within.calls ((rd_T41 l0 x7_1).f0) (-1) 4 true _ A8.out).mono ?_); rintro e w' ⟨rfl, ⟨nd, rfl⟩⟩; refine ⟨_, rfl, ?_⟩) | (go_at_call 36; (with_reducible refine (impl_within.calls ((rd_T41 l0 x7_1).f1) (-1) 4 true _ A10.out).mono ?_); rintro e w' ⟨rfl, ⟨nd, rfl⟩⟩) | (go_at_call 36; (with_reducible refine (impl_within.calls ((rd_T41 l0 x7_1).f2) (-1) 3 true _ A12.out).mono ?_); rintro e w' ⟨rfl, ⟨nd, rfl⟩⟩) | (go_at_call 36; (with_reducible refine (impl_within.calls ((rd_T41 l0 x7_1).f4) 0 4 true _ A14.out).mono ?_); rintro e w' ⟨rfl, ⟨nd, rfl⟩⟩) | (go_at_call 36; (with_reducible refine (impl_within.calls ((rd_T41 l0 x7_1).f5) 0 60 t110 _ A16.out).mono ?_); rintro e w' ⟨rfl, ⟨nd, rfl⟩⟩))
                      go_meet
                      case rel => exact ⟨_, (!t110), (by first | rfl | (simp; done) | (simp [*]; done)), H', ⟨by have := HK1.out; first | omega | exact Nat.le_refl _⟩, ⟨by (with_reducible repeat (first | refine blk_drewN ?_ _ | refine blk_drew ?_ | refine blk_alloc ?_ _)); refine blk_put (cs := #[.int .i64 ((rd_T41 l0 x7_1).f0), .int .i64 ((rd_T41 l0 x7_1).f1), .int .i64 ((rd_T41 l0 x7_1).f2), .int .i64 ((rd_T41 l0 x7_1).f3.f0), .int .i64 ((rd_T41 l0 x7_1).f3.f1), .string ((rd_T41 l0 x7_1).f3.f2), .int .i64 ((rd_T41 l0 x7_1).f4), .int .i64 0]) ?_ 7 _ rfl; (with_reducible repeat (first | refine blk_drewN ?_ _ | refine blk_drew ?_ | refine blk_alloc ?_ _)); refine blk_put (cs := #[.int .i64 ((rd_T41 l0 x7_1).f0), .int .i64 ((rd_T41 l0 x7_1).f1), .int .i64 ((rd_T41 l0 x7_1).f2), .int .i64 ((rd_T41 l0 x7_1).f3.f0), .int .i64 ((rd_T41 l0 x7_1).f3.f1), .string ((rd_T41 l0 x7_1).f3.f2), .int .i64 0, .int .i64 0]) ?_ 6 _ rfl; (with_reducible repeat (first | refine blk_drewN ?_ _ | refine blk_drew ?_ | refine blk_alloc ?_ _)); refine blk_put (cs := #[.int .i64 ((rd_T41 l0 x7_1).f0), .int .i64 ((rd_T41 l0 x7_1).f1), .int .i64 ((rd_T41 l0 x7_1).f2), .int .i64 ((rd_T41 l0 x7_1).f3.f0), .int .i64 ((rd_T41 l0 x7_1).f3.f1), .string (⟨#[]⟩ : ByteArray), .int .i64 0, .int .i64 0]) ?_ 5 _ rfl; (with_reducible repeat (first | refine blk_drewN ?_ _ | refine blk_drew ?_ | refine blk_alloc ?_ _)); refine blk_put (cs := #[.int .i64 ((rd_T41 l0 x7_1).f0), .int .i64 ((rd_T41 l0 x7_1).f1), .int .i64 ((rd_T41 l0 x7_1).f2), .int .i64 ((rd_T41 l0 x7_1).f3.f0), .int .i64 0, .string (⟨#[]⟩ : ByteArray), .int .i64 0, .int .i64 0]) ?_ 4 _ rfl; (with_reducible repeat (first | refine blk_drewN ?_ _ | refine blk_drew ?_ | refine blk_alloc ?_ _)); refine blk_put (cs := #[.int .i64 ((rd_T41 l0 x7_1).f0), .int .i64 ((rd_T41 l0 x7_1).f1), .int .i64 ((rd_T41 l0 x7_1).f2), .int .i64 0, .int .i64 0, .string (⟨#[]⟩ : ByteArray), .int .i64 0, .int .i64 0]) ?_ 3 _ rfl; (with_reducible repeat (first | refine blk_drewN ?_ _ | refine blk_drew ?_ | refine blk_alloc ?_ _)); refine blk_put (cs := #[.int .i64 ((rd_T41 l0 x7_1).f0), .int .i64 ((rd_T41 l0 x7_1).f1), .int .i64 0, .int .i64 0, .int .i64 0, .string (⟨#[]⟩ : ByteArray), .int .i64 0, .int .i64 0]) ?_ 2 _ rfl; (with_reducible repeat (first | refine blk_drewN ?_ _ | refine blk_drew ?_ | refine blk_alloc ?_ _)); refine blk_put (cs := #[.int .i64 ((rd_T41 l0 x7_1).f0), .int .i64 0, .int .i64 0, .int .i64 0, .int .i64 0, .string (⟨#[]⟩ : ByteArray), .int .i64 0, .int .i64 0]) ?_ 1 _ rfl; (with_reducible repeat (first | refine blk_drewN ?_ _ | refine blk_drew ?_ | refine blk_alloc ?_ _)); refine blk_put (cs := #[.int .i64 0, .int .i64 0, .int .i64 0, .int .i64 0, .int .i64 0, .string (⟨#[]⟩ : ByteArray), .int .i64 0, .int .i64 0]) ?_ 0 _ rfl; (with_reducible repeat (first | refine blk_drewN ?_ _ | refine blk_drew ?_ | refine blk_alloc ?_ _)); exact BK105.out⟩, ⟨by repeat (first | (with_reducible first | exact HB.out | apply below_alloc | apply pw_below_drewN | apply below_drew1 | refine below_set ?_ GE105.out) | exact HB.out)⟩⟩
                    · replace c15 := Bool.eq_false_iff.mpr c15
                      subst c15
                      have H1 : (impl_RulesOk.j1 k1 l0 l0 (l0.length : Int) x7_1 true ((rd_T41 l0 x7_1).f0) ((rd_T41 l0 x7_1).f1) ((rd_T41 l0 x7_1).f2) ((rd_T41 l0 x7_1).f3.f0) ((rd_T41 l0 x7_1).f3.f1) ((rd_T41 l0 x7_1).f3.f2) ((rd_T41 l0 x7_1).f4) ((rd_T41 l0 x7_1).f5)) = some r := by rw [if_neg (show ¬ (false = true) by decide)] at H; exact H
                      clear H
                      have H := H1
                      clear H1
                      have H' := Aside0.mk H
                      clear H
                      have hcz18_0 : w6.cell? ⟨gb105, 0, none⟩ = some (.int .i64 0) := (blk_cell BK105.out 0).trans rfl
                      have hcz18_1 : w6.cell? ⟨gb105, 1, none⟩ = some (.int .i64 0) := (blk_cell BK105.out 1).trans rfl
                      have hcz18_2 : w6.cell? ⟨gb105, 2, none⟩ = some (.int .i64 0) := (blk_cell BK105.out 2).trans rfl
                      have hcz18_3 : w6.cell? ⟨gb105, 3, none⟩ = some (.int .i64 0) := (blk_cell BK105.out 3).trans rfl
                      have hcz18_4 : w6.cell? ⟨gb105, 4, none⟩ = some (.int .i64 0) := (blk_cell BK105.out 4).trans rfl
                      have hcz18_5 : w6.cell? ⟨gb105, 5, none⟩ = some (.string (⟨#[]⟩ : ByteArray)) := (blk_cell BK105.out 5).trans rfl
                      have hcz18_6 : w6.cell? ⟨gb105, 6, none⟩ = some (.int .i64 0) := (blk_cell BK105.out 6).trans rfl
                      have hcz18_7 : w6.cell? ⟨gb105, 7, none⟩ = some (.int .i64 0) := (blk_cell BK105.out 7).trans rfl
                      have hfz18_0 := blk_frozen BK105.out 0
                      have hfz18_1 := blk_frozen BK105.out 1
                      have hfz18_2 := blk_frozen BK105.out 2
                      have hfz18_3 := blk_frozen BK105.out 3
                      have hfz18_4 := blk_frozen BK105.out 4
                      have hfz18_5 := blk_frozen BK105.out 5
                      have hfz18_6 := blk_frozen BK105.out 6
                      have hfz18_7 := blk_frozen BK105.out 7
                      go_wp2_with (first | ((with_reducible refine gate_callee (f := 36) rfl ?_); refine goesL_ (some 13) rfl rfl Try.func36 (by kernel_rfl) rfl #[.int .i64 ((rd_T41 l0 x7_1).f0), .int .i64 (-1), .int .i64 4] rfl (by (try simp only [List.map_toArray, List.map_cons, List.map_nil]); first | done | rfl | (simp only [List.length_drop, List.length_take]; rfl)) ?_; (with_reducible refine (impl_within.calls ((rd_T41 l0 x7_1).f0) (-1) 4 true _ A8.out).mono ?_); rintro e w' ⟨rfl, ⟨nd, rfl⟩⟩; refine ⟨_, rfl, ?_⟩) | (go_at_call 36; (with_reducible refine (impl_within.calls ((rd_T41 l0 x7_1).f1) (-1) 4 true _ A10.out).mono ?_); rintro e w' ⟨rfl, ⟨nd, rfl⟩⟩) | (go_at_call 36; (with_reducible refine (impl_within.calls ((rd_T41 l0 x7_1).f2) (-1) 3 true _ A12.out).mono ?_); rintro e w' ⟨rfl, ⟨nd, rfl⟩⟩) | (go_at_call 36; (with_reducible refine (impl_within.calls ((rd_T41 l0 x7_1).f4) 0 4 false _ A14.out).mono ?_); rintro e w' ⟨rfl, ⟨nd, rfl⟩⟩))
                      go_meet
                      case rel => exact ⟨_, (true), (by first | rfl | (simp; done) | (simp [*]; done)), H', ⟨by have := HK1.out; first | omega | exact Nat.le_refl _⟩, ⟨by (with_reducible repeat (first | refine blk_drewN ?_ _ | refine blk_drew ?_ | refine blk_alloc ?_ _)); refine blk_put (cs := #[.int .i64 ((rd_T41 l0 x7_1).f0), .int .i64 ((rd_T41 l0 x7_1).f1), .int .i64 ((rd_T41 l0 x7_1).f2), .int .i64 ((rd_T41 l0 x7_1).f3.f0), .int .i64 ((rd_T41 l0 x7_1).f3.f1), .string ((rd_T41 l0 x7_1).f3.f2), .int .i64 ((rd_T41 l0 x7_1).f4), .int .i64 0]) ?_ 7 _ rfl; (with_reducible repeat (first | refine blk_drewN ?_ _ | refine blk_drew ?_ | refine blk_alloc ?_ _)); refine blk_put (cs := #[.int .i64 ((rd_T41 l0 x7_1).f0), .int .i64 ((rd_T41 l0 x7_1).f1), .int .i64 ((rd_T41 l0 x7_1).f2), .int .i64 ((rd_T41 l0 x7_1).f3.f0), .int .i64 ((rd_T41 l0 x7_1).f3.f1), .string ((rd_T41 l0 x7_1).f3.f2), .int .i64 0, .int .i64 0]) ?_ 6 _ rfl; (with_reducible repeat (first | refine blk_drewN ?_ _ | refine blk_drew ?_ | refine blk_alloc ?_ _)); refine blk_put (cs := #[.int .i64 ((rd_T41 l0 x7_1).f0), .int .i64 ((rd_T41 l0 x7_1).f1), .int .i64 ((rd_T41 l0 x7_1).f2), .int .i64 ((rd_T41 l0 x7_1).f3.f0), .int .i64 ((rd_T41 l0 x7_1).f3.f1), .string (⟨#[]⟩ : ByteArray), .int .i64 0, .int .i64 0]) ?_ 5 _ rfl; (with_reducible repeat (first | refine blk_drewN ?_ _ | refine blk_drew ?_ | refine blk_alloc ?_ _)); refine blk_put (cs := #[.int .i64 ((rd_T41 l0 x7_1).f0), .int .i64 ((rd_T41 l0 x7_1).f1), .int .i64 ((rd_T41 l0 x7_1).f2), .int .i64 ((rd_T41 l0 x7_1).f3.f0), .int .i64 0, .string (⟨#[]⟩ : ByteArray), .int .i64 0, .int .i64 0]) ?_ 4 _ rfl; (with_reducible repeat (first | refine blk_drewN ?_ _ | refine blk_drew ?_ | refine blk_alloc ?_ _)); refine blk_put (cs := #[.int .i64 ((rd_T41 l0 x7_1).f0), .int .i64 ((rd_T41 l0 x7_1).f1), .int .i64 ((rd_T41 l0 x7_1).f2), .int .i64 0, .int .i64 0, .string (⟨#[]⟩ : ByteArray), .int .i64 0, .int .i64 0]) ?_ 3 _ rfl; (with_reducible repeat (first | refine blk_drewN ?_ _ | refine blk_drew ?_ | refine blk_alloc ?_ _)); refine blk_put (cs := #[.int .i64 ((rd_T41 l0 x7_1).f0), .int .i64 ((rd_T41 l0 x7_1).f1), .int .i64 0, .int .i64 0, .int .i64 0, .string (⟨#[]⟩ : ByteArray), .int .i64 0, .int .i64 0]) ?_ 2 _ rfl; (with_reducible repeat (first | refine blk_drewN ?_ _ | refine blk_drew ?_ | refine blk_alloc ?_ _)); refine blk_put (cs := #[.int .i64 ((rd_T41 l0 x7_1).f0), .int .i64 0, .int .i64 0, .int .i64 0, .int .i64 0, .string (⟨#[]⟩ : ByteArray), .int .i64 0, .int .i64 0]) ?_ 1 _ rfl; (with_reducible repeat (first | refine blk_drewN ?_ _ | refine blk_drew ?_ | refine blk_alloc ?_ _)); refine blk_put (cs := #[.int .i64 0, .int .i64 0, .int .i64 0, .int .i64 0, .int .i64 0, .string (⟨#[]⟩ : ByteArray), .int .i64 0, .int .i64 0]) ?_ 0 _ rfl; (with_reducible repeat (first | refine blk_drewN ?_ _ | refine blk_drew ?_ | refine blk_alloc ?_ _)); exact BK105.out⟩, ⟨by repeat (first | (with_reducible first | exact HB.out | apply below_alloc | apply pw_below_drewN | apply below_drew1 | refine below_set ?_ GE105.out) | exact HB.out)⟩⟩
                  · replace c13 := Bool.eq_false_iff.mpr c13
                    subst c13
                    have H1 : (impl_RulesOk.j1 k1 l0 l0 (l0.length : Int) x7_1 true ((rd_T41 l0 x7_1).f0) ((rd_T41 l0 x7_1).f1) ((rd_T41 l0 x7_1).f2) ((rd_T41 l0 x7_1).f3.f0) ((rd_T41 l0 x7_1).f3.f1) ((rd_T41 l0 x7_1).f3.f2) ((rd_T41 l0 x7_1).f4) ((rd_T41 l0 x7_1).f5)) = some r := by rw [if_neg (show ¬ (false = true) by decide)] at H; exact H
                    clear H
                    have H := H1
                    clear H1
                    have H' := Aside0.mk H
                    clear H
                    have hcz19_0 : w6.cell? ⟨gb105, 0, none⟩ = some (.int .i64 0) := (blk_cell BK105.out 0).trans rfl
                    have hcz19_1 : w6.cell? ⟨gb105, 1, none⟩ = some (.int .i64 0) := (blk_cell BK105.out 1).trans rfl
                    have hcz19_2 : w6.cell? ⟨gb105, 2, none⟩ = some (.int .i64 0) := (blk_cell BK105.out 2).trans rfl
                    have hcz19_3 : w6.cell? ⟨gb105, 3, none⟩ = some (.int .i64 0) := (blk_cell BK105.out 3).trans rfl
                    have hcz19_4 : w6.cell? ⟨gb105, 4, none⟩ = some (.int .i64 0) := (blk_cell BK105.out 4).trans rfl
                    have hcz19_5 : w6.cell? ⟨gb105, 5, none⟩ = some (.string (⟨#[]⟩ : ByteArray)) := (blk_cell BK105.out 5).trans rfl
                    have hcz19_6 : w6.cell? ⟨gb105, 6, none⟩ = some (.int .i64 0) := (blk_cell BK105.out 6).trans rfl
                    have hcz19_7 : w6.cell? ⟨gb105, 7, none⟩ = some (.int .i64 0) := (blk_cell BK105.out 7).trans rfl
                    have hfz19_0 := blk_frozen BK105.out 0
                    have hfz19_1 := blk_frozen BK105.out 1
                    have hfz19_2 := blk_frozen BK105.out 2
                    have hfz19_3 := blk_frozen BK105.out 3
                    have hfz19_4 := blk_frozen BK105.out 4
                    have hfz19_5 := blk_frozen BK105.out 5
                    have hfz19_6 := blk_frozen BK105.out 6
                    have hfz19_7 := blk_frozen BK105.out 7
                    go_wp2_with (first | ((with_reducible refine gate_callee (f := 36) rfl ?_); refine goesL_ (some 13) rfl rfl Try.func36 (by kernel_rfl) rfl #[.int .i64 ((rd_T41 l0 x7_1).f0), .int .i64 (-1), .int .i64 4] rfl (by (try simp only [List.map_toArray, List.map_cons, List.map_nil]); first | done | rfl | (simp only [List.length_drop, List.length_take]; rfl)) ?_; (with_reducible refine (impl_within.calls ((rd_T41 l0 x7_1).f0) (-1) 4 true _ A8.out).mono ?_); rintro e w' ⟨rfl, ⟨nd, rfl⟩⟩; refine ⟨_, rfl, ?_⟩) | (go_at_call 36; (with_reducible refine (impl_within.calls ((rd_T41 l0 x7_1).f1) (-1) 4 true _ A10.out).mono ?_); rintro e w' ⟨rfl, ⟨nd, rfl⟩⟩) | (go_at_call 36; (with_reducible refine (impl_within.calls ((rd_T41 l0 x7_1).f2) (-1) 3 false _ A12.out).mono ?_); rintro e w' ⟨rfl, ⟨nd, rfl⟩⟩))
                    go_meet
                    case rel => exact ⟨_, (true), (by first | rfl | (simp; done) | (simp [*]; done)), H', ⟨by have := HK1.out; first | omega | exact Nat.le_refl _⟩, ⟨by (with_reducible repeat (first | refine blk_drewN ?_ _ | refine blk_drew ?_ | refine blk_alloc ?_ _)); refine blk_put (cs := #[.int .i64 ((rd_T41 l0 x7_1).f0), .int .i64 ((rd_T41 l0 x7_1).f1), .int .i64 ((rd_T41 l0 x7_1).f2), .int .i64 ((rd_T41 l0 x7_1).f3.f0), .int .i64 ((rd_T41 l0 x7_1).f3.f1), .string ((rd_T41 l0 x7_1).f3.f2), .int .i64 ((rd_T41 l0 x7_1).f4), .int .i64 0]) ?_ 7 _ rfl; (with_reducible repeat (first | refine blk_drewN ?_ _ | refine blk_drew ?_ | refine blk_alloc ?_ _)); refine blk_put (cs := #[.int .i64 ((rd_T41 l0 x7_1).f0), .int .i64 ((rd_T41 l0 x7_1).f1), .int .i64 ((rd_T41 l0 x7_1).f2), .int .i64 ((rd_T41 l0 x7_1).f3.f0), .int .i64 ((rd_T41 l0 x7_1).f3.f1), .string ((rd_T41 l0 x7_1).f3.f2), .int .i64 0, .int .i64 0]) ?_ 6 _ rfl; (with_reducible repeat (first | refine blk_drewN ?_ _ | refine blk_drew ?_ | refine blk_alloc ?_ _)); refine blk_put (cs := #[.int .i64 ((rd_T41 l0 x7_1).f0), .int .i64 ((rd_T41 l0 x7_1).f1), .int .i64 ((rd_T41 l0 x7_1).f2), .int .i64 ((rd_T41 l0 x7_1).f3.f0), .int .i64 ((rd_T41 l0 x7_1).f3.f1), .string (⟨#[]⟩ : ByteArray), .int .i64 0, .int .i64 0]) ?_ 5 _ rfl; (with_reducible repeat (first | refine blk_drewN ?_ _ | refine blk_drew ?_ | refine blk_alloc ?_ _)); refine blk_put (cs := #[.int .i64 ((rd_T41 l0 x7_1).f0), .int .i64 ((rd_T41 l0 x7_1).f1), .int .i64 ((rd_T41 l0 x7_1).f2), .int .i64 ((rd_T41 l0 x7_1).f3.f0), .int .i64 0, .string (⟨#[]⟩ : ByteArray), .int .i64 0, .int .i64 0]) ?_ 4 _ rfl; (with_reducible repeat (first | refine blk_drewN ?_ _ | refine blk_drew ?_ | refine blk_alloc ?_ _)); refine blk_put (cs := #[.int .i64 ((rd_T41 l0 x7_1).f0), .int .i64 ((rd_T41 l0 x7_1).f1), .int .i64 ((rd_T41 l0 x7_1).f2), .int .i64 0, .int .i64 0, .string (⟨#[]⟩ : ByteArray), .int .i64 0, .int .i64 0]) ?_ 3 _ rfl; (with_reducible repeat (first | refine blk_drewN ?_ _ | refine blk_drew ?_ | refine blk_alloc ?_ _)); refine blk_put (cs := #[.int .i64 ((rd_T41 l0 x7_1).f0), .int .i64 ((rd_T41 l0 x7_1).f1), .int .i64 0, .int .i64 0, .int .i64 0, .string (⟨#[]⟩ : ByteArray), .int .i64 0, .int .i64 0]) ?_ 2 _ rfl; (with_reducible repeat (first | refine blk_drewN ?_ _ | refine blk_drew ?_ | refine blk_alloc ?_ _)); refine blk_put (cs := #[.int .i64 ((rd_T41 l0 x7_1).f0), .int .i64 0, .int .i64 0, .int .i64 0, .int .i64 0, .string (⟨#[]⟩ : ByteArray), .int .i64 0, .int .i64 0]) ?_ 1 _ rfl; (with_reducible repeat (first | refine blk_drewN ?_ _ | refine blk_drew ?_ | refine blk_alloc ?_ _)); refine blk_put (cs := #[.int .i64 0, .int .i64 0, .int .i64 0, .int .i64 0, .int .i64 0, .string (⟨#[]⟩ : ByteArray), .int .i64 0, .int .i64 0]) ?_ 0 _ rfl; (with_reducible repeat (first | refine blk_drewN ?_ _ | refine blk_drew ?_ | refine blk_alloc ?_ _)); exact BK105.out⟩, ⟨by repeat (first | (with_reducible first | exact HB.out | apply below_alloc | apply pw_below_drewN | apply below_drew1 | refine below_set ?_ GE105.out) | exact HB.out)⟩⟩
                · replace c11 := Bool.eq_false_iff.mpr c11
                  subst c11
                  have H1 : (impl_RulesOk.j1 k1 l0 l0 (l0.length : Int) x7_1 true ((rd_T41 l0 x7_1).f0) ((rd_T41 l0 x7_1).f1) ((rd_T41 l0 x7_1).f2) ((rd_T41 l0 x7_1).f3.f0) ((rd_T41 l0 x7_1).f3.f1) ((rd_T41 l0 x7_1).f3.f2) ((rd_T41 l0 x7_1).f4) ((rd_T41 l0 x7_1).f5)) = some r := by rw [if_neg (show ¬ (false = true) by decide)] at H; exact H
                  clear H
                  have H := H1
                  clear H1
                  have H' := Aside0.mk H
                  clear H
                  have hcz20_0 : w6.cell? ⟨gb105, 0, none⟩ = some (.int .i64 0) := (blk_cell BK105.out 0).trans rfl
                  have hcz20_1 : w6.cell? ⟨gb105, 1, none⟩ = some (.int .i64 0) := (blk_cell BK105.out 1).trans rfl
                  have hcz20_2 : w6.cell? ⟨gb105, 2, none⟩ = some (.int .i64 0) := (blk_cell BK105.out 2).trans rfl
                  have hcz20_3 : w6.cell? ⟨gb105, 3, none⟩ = some (.int .i64 0) := (blk_cell BK105.out 3).trans rfl
                  have hcz20_4 : w6.cell? ⟨gb105, 4, none⟩ = some (.int .i64 0) := (blk_cell BK105.out 4).trans rfl
                  have hcz20_5 : w6.cell? ⟨gb105, 5, none⟩ = some (.string (⟨#[]⟩ : ByteArray)) := (blk_cell BK105.out 5).trans rfl
                  have hcz20_6 : w6.cell? ⟨gb105, 6, none⟩ = some (.int .i64 0) := (blk_cell BK105.out 6).trans rfl
                  have hcz20_7 : w6.cell? ⟨gb105, 7, none⟩ = some (.int .i64 0) := (blk_cell BK105.out 7).trans rfl
                  have hfz20_0 := blk_frozen BK105.out 0
                  have hfz20_1 := blk_frozen BK105.out 1
                  have hfz20_2 := blk_frozen BK105.out 2
                  have hfz20_3 := blk_frozen BK105.out 3
                  have hfz20_4 := blk_frozen BK105.out 4
                  have hfz20_5 := blk_frozen BK105.out 5
                  have hfz20_6 := blk_frozen BK105.out 6
                  have hfz20_7 := blk_frozen BK105.out 7
                  go_wp2_with (first | ((with_reducible refine gate_callee (f := 36) rfl ?_); refine goesL_ (some 13) rfl rfl Try.func36 (by kernel_rfl) rfl #[.int .i64 ((rd_T41 l0 x7_1).f0), .int .i64 (-1), .int .i64 4] rfl (by (try simp only [List.map_toArray, List.map_cons, List.map_nil]); first | done | rfl | (simp only [List.length_drop, List.length_take]; rfl)) ?_; (with_reducible refine (impl_within.calls ((rd_T41 l0 x7_1).f0) (-1) 4 true _ A8.out).mono ?_); rintro e w' ⟨rfl, ⟨nd, rfl⟩⟩; refine ⟨_, rfl, ?_⟩) | (go_at_call 36; (with_reducible refine (impl_within.calls ((rd_T41 l0 x7_1).f1) (-1) 4 false _ A10.out).mono ?_); rintro e w' ⟨rfl, ⟨nd, rfl⟩⟩))
                  go_meet
                  case rel => exact ⟨_, (true), (by first | rfl | (simp; done) | (simp [*]; done)), H', ⟨by have := HK1.out; first | omega | exact Nat.le_refl _⟩, ⟨by (with_reducible repeat (first | refine blk_drewN ?_ _ | refine blk_drew ?_ | refine blk_alloc ?_ _)); refine blk_put (cs := #[.int .i64 ((rd_T41 l0 x7_1).f0), .int .i64 ((rd_T41 l0 x7_1).f1), .int .i64 ((rd_T41 l0 x7_1).f2), .int .i64 ((rd_T41 l0 x7_1).f3.f0), .int .i64 ((rd_T41 l0 x7_1).f3.f1), .string ((rd_T41 l0 x7_1).f3.f2), .int .i64 ((rd_T41 l0 x7_1).f4), .int .i64 0]) ?_ 7 _ rfl; (with_reducible repeat (first | refine blk_drewN ?_ _ | refine blk_drew ?_ | refine blk_alloc ?_ _)); refine blk_put (cs := #[.int .i64 ((rd_T41 l0 x7_1).f0), .int .i64 ((rd_T41 l0 x7_1).f1), .int .i64 ((rd_T41 l0 x7_1).f2), .int .i64 ((rd_T41 l0 x7_1).f3.f0), .int .i64 ((rd_T41 l0 x7_1).f3.f1), .string ((rd_T41 l0 x7_1).f3.f2), .int .i64 0, .int .i64 0]) ?_ 6 _ rfl; (with_reducible repeat (first | refine blk_drewN ?_ _ | refine blk_drew ?_ | refine blk_alloc ?_ _)); refine blk_put (cs := #[.int .i64 ((rd_T41 l0 x7_1).f0), .int .i64 ((rd_T41 l0 x7_1).f1), .int .i64 ((rd_T41 l0 x7_1).f2), .int .i64 ((rd_T41 l0 x7_1).f3.f0), .int .i64 ((rd_T41 l0 x7_1).f3.f1), .string (⟨#[]⟩ : ByteArray), .int .i64 0, .int .i64 0]) ?_ 5 _ rfl; (with_reducible repeat (first | refine blk_drewN ?_ _ | refine blk_drew ?_ | refine blk_alloc ?_ _)); refine blk_put (cs := #[.int .i64 ((rd_T41 l0 x7_1).f0), .int .i64 ((rd_T41 l0 x7_1).f1), .int .i64 ((rd_T41 l0 x7_1).f2), .int .i64 ((rd_T41 l0 x7_1).f3.f0), .int .i64 0, .string (⟨#[]⟩ : ByteArray), .int .i64 0, .int .i64 0]) ?_ 4 _ rfl; (with_reducible repeat (first | refine blk_drewN ?_ _ | refine blk_drew ?_ | refine blk_alloc ?_ _)); refine blk_put (cs := #[.int .i64 ((rd_T41 l0 x7_1).f0), .int .i64 ((rd_T41 l0 x7_1).f1), .int .i64 ((rd_T41 l0 x7_1).f2), .int .i64 0, .int .i64 0, .string (⟨#[]⟩ : ByteArray), .int .i64 0, .int .i64 0]) ?_ 3 _ rfl; (with_reducible repeat (first | refine blk_drewN ?_ _ | refine blk_drew ?_ | refine blk_alloc ?_ _)); refine blk_put (cs := #[.int .i64 ((rd_T41 l0 x7_1).f0), .int .i64 ((rd_T41 l0 x7_1).f1), .int .i64 0, .int .i64 0, .int .i64 0, .string (⟨#[]⟩ : ByteArray), .int .i64 0, .int .i64 0]) ?_ 2 _ rfl; (with_reducible repeat (first | refine blk_drewN ?_ _ | refine blk_drew ?_ | refine blk_alloc ?_ _)); refine blk_put (cs := #[.int .i64 ((rd_T41 l0 x7_1).f0), .int .i64 0, .int .i64 0, .int .i64 0, .int .i64 0, .string (⟨#[]⟩ : ByteArray), .int .i64 0, .int .i64 0]) ?_ 1 _ rfl; (with_reducible repeat (first | refine blk_drewN ?_ _ | refine blk_drew ?_ | refine blk_alloc ?_ _)); refine blk_put (cs := #[.int .i64 0, .int .i64 0, .int .i64 0, .int .i64 0, .int .i64 0, .string (⟨#[]⟩ : ByteArray), .int .i64 0, .int .i64 0]) ?_ 0 _ rfl; (with_reducible repeat (first | refine blk_drewN ?_ _ | refine blk_drew ?_ | refine blk_alloc ?_ _)); exact BK105.out⟩, ⟨by repeat (first | (with_reducible first | exact HB.out | apply below_alloc | apply pw_below_drewN | apply below_drew1 | refine below_set ?_ GE105.out) | exact HB.out)⟩⟩
              · replace c9 := Bool.eq_false_iff.mpr c9
                subst c9
                have H1 : (impl_RulesOk.j1 k1 l0 l0 (l0.length : Int) x7_1 true ((rd_T41 l0 x7_1).f0) ((rd_T41 l0 x7_1).f1) ((rd_T41 l0 x7_1).f2) ((rd_T41 l0 x7_1).f3.f0) ((rd_T41 l0 x7_1).f3.f1) ((rd_T41 l0 x7_1).f3.f2) ((rd_T41 l0 x7_1).f4) ((rd_T41 l0 x7_1).f5)) = some r := by rw [if_neg (show ¬ (false = true) by decide)] at H; exact H
                clear H
                have H := H1
                clear H1
                have H' := Aside0.mk H
                clear H
                have hcz21_0 : w6.cell? ⟨gb105, 0, none⟩ = some (.int .i64 0) := (blk_cell BK105.out 0).trans rfl
                have hcz21_1 : w6.cell? ⟨gb105, 1, none⟩ = some (.int .i64 0) := (blk_cell BK105.out 1).trans rfl
                have hcz21_2 : w6.cell? ⟨gb105, 2, none⟩ = some (.int .i64 0) := (blk_cell BK105.out 2).trans rfl
                have hcz21_3 : w6.cell? ⟨gb105, 3, none⟩ = some (.int .i64 0) := (blk_cell BK105.out 3).trans rfl
                have hcz21_4 : w6.cell? ⟨gb105, 4, none⟩ = some (.int .i64 0) := (blk_cell BK105.out 4).trans rfl
                have hcz21_5 : w6.cell? ⟨gb105, 5, none⟩ = some (.string (⟨#[]⟩ : ByteArray)) := (blk_cell BK105.out 5).trans rfl
                have hcz21_6 : w6.cell? ⟨gb105, 6, none⟩ = some (.int .i64 0) := (blk_cell BK105.out 6).trans rfl
                have hcz21_7 : w6.cell? ⟨gb105, 7, none⟩ = some (.int .i64 0) := (blk_cell BK105.out 7).trans rfl
                have hfz21_0 := blk_frozen BK105.out 0
                have hfz21_1 := blk_frozen BK105.out 1
                have hfz21_2 := blk_frozen BK105.out 2
                have hfz21_3 := blk_frozen BK105.out 3
                have hfz21_4 := blk_frozen BK105.out 4
                have hfz21_5 := blk_frozen BK105.out 5
                have hfz21_6 := blk_frozen BK105.out 6
                have hfz21_7 := blk_frozen BK105.out 7
                go_wp2_with (first | ((with_reducible refine gate_callee (f := 36) rfl ?_); refine goesL_ (some 13) rfl rfl Try.func36 (by kernel_rfl) rfl #[.int .i64 ((rd_T41 l0 x7_1).f0), .int .i64 (-1), .int .i64 4] rfl (by (try simp only [List.map_toArray, List.map_cons, List.map_nil]); first | done | rfl | (simp only [List.length_drop, List.length_take]; rfl)) ?_; (with_reducible refine (impl_within.calls ((rd_T41 l0 x7_1).f0) (-1) 4 false _ A8.out).mono ?_); rintro e w' ⟨rfl, ⟨nd, rfl⟩⟩; refine ⟨_, rfl, ?_⟩))
                go_meet
                case rel => exact ⟨_, (true), (by first | rfl | (simp; done) | (simp [*]; done)), H', ⟨by have := HK1.out; first | omega | exact Nat.le_refl _⟩, ⟨by (with_reducible repeat (first | refine blk_drewN ?_ _ | refine blk_drew ?_ | refine blk_alloc ?_ _)); refine blk_put (cs := #[.int .i64 ((rd_T41 l0 x7_1).f0), .int .i64 ((rd_T41 l0 x7_1).f1), .int .i64 ((rd_T41 l0 x7_1).f2), .int .i64 ((rd_T41 l0 x7_1).f3.f0), .int .i64 ((rd_T41 l0 x7_1).f3.f1), .string ((rd_T41 l0 x7_1).f3.f2), .int .i64 ((rd_T41 l0 x7_1).f4), .int .i64 0]) ?_ 7 _ rfl; (with_reducible repeat (first | refine blk_drewN ?_ _ | refine blk_drew ?_ | refine blk_alloc ?_ _)); refine blk_put (cs := #[.int .i64 ((rd_T41 l0 x7_1).f0), .int .i64 ((rd_T41 l0 x7_1).f1), .int .i64 ((rd_T41 l0 x7_1).f2), .int .i64 ((rd_T41 l0 x7_1).f3.f0), .int .i64 ((rd_T41 l0 x7_1).f3.f1), .string ((rd_T41 l0 x7_1).f3.f2), .int .i64 0, .int .i64 0]) ?_ 6 _ rfl; (with_reducible repeat (first | refine blk_drewN ?_ _ | refine blk_drew ?_ | refine blk_alloc ?_ _)); refine blk_put (cs := #[.int .i64 ((rd_T41 l0 x7_1).f0), .int .i64 ((rd_T41 l0 x7_1).f1), .int .i64 ((rd_T41 l0 x7_1).f2), .int .i64 ((rd_T41 l0 x7_1).f3.f0), .int .i64 ((rd_T41 l0 x7_1).f3.f1), .string (⟨#[]⟩ : ByteArray), .int .i64 0, .int .i64 0]) ?_ 5 _ rfl; (with_reducible repeat (first | refine blk_drewN ?_ _ | refine blk_drew ?_ | refine blk_alloc ?_ _)); refine blk_put (cs := #[.int .i64 ((rd_T41 l0 x7_1).f0), .int .i64 ((rd_T41 l0 x7_1).f1), .int .i64 ((rd_T41 l0 x7_1).f2), .int .i64 ((rd_T41 l0 x7_1).f3.f0), .int .i64 0, .string (⟨#[]⟩ : ByteArray), .int .i64 0, .int .i64 0]) ?_ 4 _ rfl; (with_reducible repeat (first | refine blk_drewN ?_ _ | refine blk_drew ?_ | refine blk_alloc ?_ _)); refine blk_put (cs := #[.int .i64 ((rd_T41 l0 x7_1).f0), .int .i64 ((rd_T41 l0 x7_1).f1), .int .i64 ((rd_T41 l0 x7_1).f2), .int .i64 0, .int .i64 0, .string (⟨#[]⟩ : ByteArray), .int .i64 0, .int .i64 0]) ?_ 3 _ rfl; (with_reducible repeat (first | refine blk_drewN ?_ _ | refine blk_drew ?_ | refine blk_alloc ?_ _)); refine blk_put (cs := #[.int .i64 ((rd_T41 l0 x7_1).f0), .int .i64 ((rd_T41 l0 x7_1).f1), .int .i64 0, .int .i64 0, .int .i64 0, .string (⟨#[]⟩ : ByteArray), .int .i64 0, .int .i64 0]) ?_ 2 _ rfl; (with_reducible repeat (first | refine blk_drewN ?_ _ | refine blk_drew ?_ | refine blk_alloc ?_ _)); refine blk_put (cs := #[.int .i64 ((rd_T41 l0 x7_1).f0), .int .i64 0, .int .i64 0, .int .i64 0, .int .i64 0, .string (⟨#[]⟩ : ByteArray), .int .i64 0, .int .i64 0]) ?_ 1 _ rfl; (with_reducible repeat (first | refine blk_drewN ?_ _ | refine blk_drew ?_ | refine blk_alloc ?_ _)); refine blk_put (cs := #[.int .i64 0, .int .i64 0, .int .i64 0, .int .i64 0, .int .i64 0, .string (⟨#[]⟩ : ByteArray), .int .i64 0, .int .i64 0]) ?_ 0 _ rfl; (with_reducible repeat (first | refine blk_drewN ?_ _ | refine blk_drew ?_ | refine blk_alloc ?_ _)); exact BK105.out⟩, ⟨by repeat (first | (with_reducible first | exact HB.out | apply below_alloc | apply pw_below_drewN | apply below_drew1 | refine below_set ?_ GE105.out) | exact HB.out)⟩⟩
            case rest =>
              clear HC5
              try clear c1
              try clear p1
              try clear q1
              try clear hx1
              try clear c2
              try clear c2b0
              try clear p2
              try clear c3
              try clear c3b0
              try clear c4
              try clear c4b0
              try clear c9
              try clear p10
              try clear q10
              try clear hx10
              try clear c11
              try clear c13
              try clear c15
              try clear hcz17_0
              try clear hcz17_1
              try clear hcz17_2
              try clear hcz17_3
              try clear hcz17_4
              try clear hcz17_5
              try clear hcz17_6
              try clear hcz17_7
              try clear hcz18_0
              try clear hcz18_1
              try clear hcz18_2
              try clear hcz18_3
              try clear hcz18_4
              try clear hcz18_5
              try clear hcz18_6
              try clear hcz18_7
              try clear hcz19_0
              try clear hcz19_1
              try clear hcz19_2
              try clear hcz19_3
              try clear hcz19_4
              try clear hcz19_5
              try clear hcz19_6
              try clear hcz19_7
              try clear hcz20_0
              try clear hcz20_1
              try clear hcz20_2
              try clear hcz20_3
              try clear hcz20_4
              try clear hcz20_5
              try clear hcz20_6
              try clear hcz20_7
              try clear hcz21_0
              try clear hcz21_1
              try clear hcz21_2
              try clear hcz21_3
              try clear hcz21_4
              try clear hcz21_5
              try clear hcz21_6
              try clear hcz21_7
              try clear hcz7_0
              try clear hcz7_1
              try clear hcz7_2
              try clear hcz7_3
              try clear hcz7_4
              try clear hcz7_5
              try clear hcz7_6
              try clear hcz7_7
              try clear hfz17_0
              try clear hfz17_1
              try clear hfz17_2
              try clear hfz17_3
              try clear hfz17_4
              try clear hfz17_5
              try clear hfz17_6
              try clear hfz17_7
              try clear hfz18_0
              try clear hfz18_1
              try clear hfz18_2
              try clear hfz18_3
              try clear hfz18_4
              try clear hfz18_5
              try clear hfz18_6
              try clear hfz18_7
              try clear hfz19_0
              try clear hfz19_1
              try clear hfz19_2
              try clear hfz19_3
              try clear hfz19_4
              try clear hfz19_5
              try clear hfz19_6
              try clear hfz19_7
              try clear hfz20_0
              try clear hfz20_1
              try clear hfz20_2
              try clear hfz20_3
              try clear hfz20_4
              try clear hfz20_5
              try clear hfz20_6
              try clear hfz20_7
              try clear hfz21_0
              try clear hfz21_1
              try clear hfz21_2
              try clear hfz21_3
              try clear hfz21_4
              try clear hfz21_5
              try clear hfz21_6
              try clear hfz21_7
              try clear hfz7_0
              try clear hfz7_1
              try clear hfz7_2
              try clear hfz7_3
              try clear hfz7_4
              try clear hfz7_5
              try clear hfz7_6
              try clear hfz7_7
              try clear hx104_0
              try clear hx104_1
              try clear hx104_2
              try clear hx104_3
              try clear hx104_4
              try clear hx104_5
              try clear hx104_6
              try clear hx104_7
              try clear p104
              try clear q104
              obtain ⟨kq, x38_4, rfl, HA, HJ4, BK105, HB⟩ := hcut
              cases kq with
              | zero => exact absurd HA.out (by simp [impl_RulesOk.j1])
              | succ kj4 =>
                have H := HA.out
                clear HA
                simp only [impl_RulesOk.j1] at H
                by_cases c22 : x38_4 = true
                · subst c22
                  have H1 : (some false) = some r := by rw [if_pos rfl] at H; exact H
                  clear H
                  have H := H1
                  clear H1
                  obtain rfl := Option.some.inj H
                  go_wp2
                  go_ret
                  exact ⟨by first | rfl | (simp [errW_none, errW_some] <;> rfl) | (simp [*, errW_none, errW_some] <;> rfl), by repeat (first | (with_reducible first | exact HB.out | apply below_alloc | apply pw_below_drewN | apply below_drew1 | refine below_set ?_ GE105.out) | exact HB.out)⟩
                · replace c22 := Bool.eq_false_iff.mpr c22
                  subst c22
                  have H1 : (if ((rd_T41 l0 x7_1).f2) = (-1) then (if (!(((rd_T41 l0 x7_1).f3.f0) == 0) || (!(((rd_T41 l0 x7_1).f3.f1) == 0) || (!(((rd_T41 l0 x7_1).f3.f2).toList == ([] : List UInt8))))) = true then (some false) else ((impl_ValOk.f kj4 ((rd_T41 l0 x7_1).f3.f0) ((rd_T41 l0 x7_1).f3.f1) ((rd_T41 l0 x7_1).f3.f2)).bind fun t111 => (if t111 = true then (impl_RulesOk.l0 kj4 l0 l0 (l0.length : Int) (wrap64 (x7_1 + 1))) else (some false)))) else ((impl_ValOk.f kj4 ((rd_T41 l0 x7_1).f3.f0) ((rd_T41 l0 x7_1).f3.f1) ((rd_T41 l0 x7_1).f3.f2)).bind fun t112 => (if t112 = true then (impl_RulesOk.l0 kj4 l0 l0 (l0.length : Int) (wrap64 (x7_1 + 1))) else (some false)))) = some r := by rw [if_neg (show ¬ (false = true) by decide)] at H; exact H
                  clear H
                  have H := H1
                  clear H1
                  by_cases c23 : ((rd_T41 l0 x7_1).f2) = (-1)
                  · rw [if_pos c23] at H
                    have c23b0 : (((rd_T41 l0 x7_1).f2) == (-1)) = true := beq_iff_eq.mpr c23
                    have c23b1 : (((rd_T41 l0 x7_1).f2) != (-1)) = false := bne_eq_false_iff_eq.mpr c23
                    clear c23
                    by_cases c24 : (!(((rd_T41 l0 x7_1).f3.f0) == 0) || (!(((rd_T41 l0 x7_1).f3.f1) == 0) || (!(((rd_T41 l0 x7_1).f3.f2).toList == ([] : List UInt8))))) = true
                    · rw [if_pos c24] at H
                      have c24b0 : (!(((rd_T41 l0 x7_1).f3.f0) == 0) || (!(((rd_T41 l0 x7_1).f3.f1) == 0) || (!(((rd_T41 l0 x7_1).f3.f2).toList == ([] : List UInt8))))) = true := c24
                      have c24b0e : (!(((rd_T41 l0 x7_1).f3.f0) == 0) || (!(((rd_T41 l0 x7_1).f3.f1) == 0) || (!((rd_T41 l0 x7_1).f3.f2).toList.isEmpty))) = true := by have hq_ := c24b0; simp only [show (((rd_T41 l0 x7_1).f3.f2).toList == ([] : List UInt8)) = ((rd_T41 l0 x7_1).f3.f2).toList.isEmpty from by cases ((rd_T41 l0 x7_1).f3.f2).toList <;> rfl] at hq_; exact hq_
                      clear c24
                      obtain rfl := Option.some.inj H
                      have hcz25_0 : wc.cell? ⟨gb105, 0, none⟩ = some (.int .i64 ((rd_T41 l0 x7_1).f0)) := (blk_cell BK105.out 0).trans rfl
                      have hcz25_1 : wc.cell? ⟨gb105, 1, none⟩ = some (.int .i64 ((rd_T41 l0 x7_1).f1)) := (blk_cell BK105.out 1).trans rfl
                      have hcz25_2 : wc.cell? ⟨gb105, 2, none⟩ = some (.int .i64 ((rd_T41 l0 x7_1).f2)) := (blk_cell BK105.out 2).trans rfl
                      have hcz25_3 : wc.cell? ⟨gb105, 3, none⟩ = some (.int .i64 ((rd_T41 l0 x7_1).f3.f0)) := (blk_cell BK105.out 3).trans rfl
                      have hcz25_4 : wc.cell? ⟨gb105, 4, none⟩ = some (.int .i64 ((rd_T41 l0 x7_1).f3.f1)) := (blk_cell BK105.out 4).trans rfl
                      have hcz25_5 : wc.cell? ⟨gb105, 5, none⟩ = some (.string ((rd_T41 l0 x7_1).f3.f2)) := (blk_cell BK105.out 5).trans rfl
                      have hcz25_6 : wc.cell? ⟨gb105, 6, none⟩ = some (.int .i64 ((rd_T41 l0 x7_1).f4)) := (blk_cell BK105.out 6).trans rfl
                      have hcz25_7 : wc.cell? ⟨gb105, 7, none⟩ = some (.int .i64 ((rd_T41 l0 x7_1).f5)) := (blk_cell BK105.out 7).trans rfl
                      have hfz25_0 := blk_frozen BK105.out 0
                      have hfz25_1 := blk_frozen BK105.out 1
                      have hfz25_2 := blk_frozen BK105.out 2
                      have hfz25_3 := blk_frozen BK105.out 3
                      have hfz25_4 := blk_frozen BK105.out 4
                      have hfz25_5 := blk_frozen BK105.out 5
                      have hfz25_6 := blk_frozen BK105.out 6
                      have hfz25_7 := blk_frozen BK105.out 7
                      go_wp2
                      go_ret
                      exact ⟨by first | rfl | (simp [errW_none, errW_some] <;> rfl) | (simp [*, errW_none, errW_some] <;> rfl), by repeat (first | (with_reducible first | exact HB.out | apply below_alloc | apply pw_below_drewN | apply below_drew1 | refine below_set ?_ GE105.out) | exact HB.out)⟩
                    · rw [if_neg c24] at H
                      have c24b0 : (!(((rd_T41 l0 x7_1).f3.f0) == 0) || (!(((rd_T41 l0 x7_1).f3.f1) == 0) || (!(((rd_T41 l0 x7_1).f3.f2).toList == ([] : List UInt8))))) = false := by simpa using c24
                      have c24b0e : (!(((rd_T41 l0 x7_1).f3.f0) == 0) || (!(((rd_T41 l0 x7_1).f3.f1) == 0) || (!((rd_T41 l0 x7_1).f3.f2).toList.isEmpty))) = false := by have hq_ := c24b0; simp only [show (((rd_T41 l0 x7_1).f3.f2).toList == ([] : List UInt8)) = ((rd_T41 l0 x7_1).f3.f2).toList.isEmpty from by cases ((rd_T41 l0 x7_1).f3.f2).toList <;> rfl] at hq_; exact hq_
                      clear c24
                      replace H := Option.bind_eq_some_iff.mp H
                      obtain ⟨t111, A260, H⟩ := H
                      replace H : (if t111 = true then (impl_RulesOk.l0 kj4 l0 l0 (l0.length : Int) (wrap64 (x7_1 + 1))) else (some false)) = some r := H
                      have A26 := Aside0.mk A260
                      clear A260
                      by_cases c27 : t111 = true
                      · subst c27
                        have H1 : (impl_RulesOk.l0 kj4 l0 l0 (l0.length : Int) (wrap64 (x7_1 + 1))) = some r := by rw [if_pos rfl] at H; exact H
                        clear H
                        have H := H1
                        clear H1
                        have H' := Aside0.mk H
                        clear H
                        have hcz28_0 : wc.cell? ⟨gb105, 0, none⟩ = some (.int .i64 ((rd_T41 l0 x7_1).f0)) := (blk_cell BK105.out 0).trans rfl
                        have hcz28_1 : wc.cell? ⟨gb105, 1, none⟩ = some (.int .i64 ((rd_T41 l0 x7_1).f1)) := (blk_cell BK105.out 1).trans rfl
                        have hcz28_2 : wc.cell? ⟨gb105, 2, none⟩ = some (.int .i64 ((rd_T41 l0 x7_1).f2)) := (blk_cell BK105.out 2).trans rfl
                        have hcz28_3 : wc.cell? ⟨gb105, 3, none⟩ = some (.int .i64 ((rd_T41 l0 x7_1).f3.f0)) := (blk_cell BK105.out 3).trans rfl
                        have hcz28_4 : wc.cell? ⟨gb105, 4, none⟩ = some (.int .i64 ((rd_T41 l0 x7_1).f3.f1)) := (blk_cell BK105.out 4).trans rfl
                        have hcz28_5 : wc.cell? ⟨gb105, 5, none⟩ = some (.string ((rd_T41 l0 x7_1).f3.f2)) := (blk_cell BK105.out 5).trans rfl
                        have hcz28_6 : wc.cell? ⟨gb105, 6, none⟩ = some (.int .i64 ((rd_T41 l0 x7_1).f4)) := (blk_cell BK105.out 6).trans rfl
                        have hcz28_7 : wc.cell? ⟨gb105, 7, none⟩ = some (.int .i64 ((rd_T41 l0 x7_1).f5)) := (blk_cell BK105.out 7).trans rfl
                        have hfz28_0 := blk_frozen BK105.out 0
                        have hfz28_1 := blk_frozen BK105.out 1
                        have hfz28_2 := blk_frozen BK105.out 2
                        have hfz28_3 := blk_frozen BK105.out 3
                        have hfz28_4 := blk_frozen BK105.out 4
                        have hfz28_5 := blk_frozen BK105.out 5
                        have hfz28_6 := blk_frozen BK105.out 6
                        have hfz28_7 := blk_frozen BK105.out 7
                        go_wp2_with (first | (go_at_call 48; (with_reducible refine (impl_ValOk.calls kj4 ((rd_T41 l0 x7_1).f3.f0) ((rd_T41 l0 x7_1).f3.f1) ((rd_T41 l0 x7_1).f3.f2) true _ A26.out).mono ?_); rintro e w29 ⟨rfl, hb⟩; have n0_ := Aside0.mk (blk_below (g := gb105) (o := .cells #[.int .i64 ((rd_T41 l0 x7_1).f0), .int .i64 ((rd_T41 l0 x7_1).f1), .int .i64 ((rd_T41 l0 x7_1).f2), .int .i64 ((rd_T41 l0 x7_1).f3.f0), .int .i64 ((rd_T41 l0 x7_1).f3.f1), .string ((rd_T41 l0 x7_1).f3.f2), .int .i64 ((rd_T41 l0 x7_1).f4), .int .i64 ((rd_T41 l0 x7_1).f5)] 41 (0, 0)) (by (with_reducible repeat (first | refine blk_drewN ?_ _ | refine blk_drew ?_ | refine blk_alloc ?_ _)); exact BK105.out) hb); have n1_ := Aside0.mk (below_step (by repeat (first | (with_reducible first | exact HB.out | apply below_alloc | apply pw_below_drewN | apply below_drew1 | refine below_set ?_ GE105.out) | exact HB.out)) hb); clear BK105; clear HB; have BK105 := n0_; have HB := n1_; clear n0_ n1_; (try clear hb); (try clear hb2); (try clear hk); (try clear hi)))
                        go_roundg kj4
                        case measure => have := HK1.out; have := HJ4.out; omega
                        case rel => exact ⟨(wrap64 (x7_1 + 1)), (by first | rfl | (simp; done) | (simp [*]; done)), H', ⟨by have := HK1.out; have := HJ4.out; omega⟩, ⟨by repeat (first | (with_reducible first | exact HB.out | apply below_alloc | apply pw_below_drewN | apply below_drew1 | refine below_set ?_ GE105.out) | exact HB.out)⟩⟩
                      · replace c27 := Bool.eq_false_iff.mpr c27
                        subst c27
                        have H1 : (some false) = some r := by rw [if_neg (show ¬ (false = true) by decide)] at H; exact H
                        clear H
                        have H := H1
                        clear H1
                        obtain rfl := Option.some.inj H
                        have hcz30_0 : wc.cell? ⟨gb105, 0, none⟩ = some (.int .i64 ((rd_T41 l0 x7_1).f0)) := (blk_cell BK105.out 0).trans rfl
                        have hcz30_1 : wc.cell? ⟨gb105, 1, none⟩ = some (.int .i64 ((rd_T41 l0 x7_1).f1)) := (blk_cell BK105.out 1).trans rfl
                        have hcz30_2 : wc.cell? ⟨gb105, 2, none⟩ = some (.int .i64 ((rd_T41 l0 x7_1).f2)) := (blk_cell BK105.out 2).trans rfl
                        have hcz30_3 : wc.cell? ⟨gb105, 3, none⟩ = some (.int .i64 ((rd_T41 l0 x7_1).f3.f0)) := (blk_cell BK105.out 3).trans rfl
                        have hcz30_4 : wc.cell? ⟨gb105, 4, none⟩ = some (.int .i64 ((rd_T41 l0 x7_1).f3.f1)) := (blk_cell BK105.out 4).trans rfl
                        have hcz30_5 : wc.cell? ⟨gb105, 5, none⟩ = some (.string ((rd_T41 l0 x7_1).f3.f2)) := (blk_cell BK105.out 5).trans rfl
                        have hcz30_6 : wc.cell? ⟨gb105, 6, none⟩ = some (.int .i64 ((rd_T41 l0 x7_1).f4)) := (blk_cell BK105.out 6).trans rfl
                        have hcz30_7 : wc.cell? ⟨gb105, 7, none⟩ = some (.int .i64 ((rd_T41 l0 x7_1).f5)) := (blk_cell BK105.out 7).trans rfl
                        have hfz30_0 := blk_frozen BK105.out 0
                        have hfz30_1 := blk_frozen BK105.out 1
                        have hfz30_2 := blk_frozen BK105.out 2
                        have hfz30_3 := blk_frozen BK105.out 3
                        have hfz30_4 := blk_frozen BK105.out 4
                        have hfz30_5 := blk_frozen BK105.out 5
                        have hfz30_6 := blk_frozen BK105.out 6
                        have hfz30_7 := blk_frozen BK105.out 7
                        go_wp2_with (first | (go_at_call 48; (with_reducible refine (impl_ValOk.calls kj4 ((rd_T41 l0 x7_1).f3.f0) ((rd_T41 l0 x7_1).f3.f1) ((rd_T41 l0 x7_1).f3.f2) false _ A26.out).mono ?_); rintro e w31 ⟨rfl, hb⟩; have n0_ := Aside0.mk (blk_below (g := gb105) (o := .cells #[.int .i64 ((rd_T41 l0 x7_1).f0), .int .i64 ((rd_T41 l0 x7_1).f1), .int .i64 ((rd_T41 l0 x7_1).f2), .int .i64 ((rd_T41 l0 x7_1).f3.f0), .int .i64 ((rd_T41 l0 x7_1).f3.f1), .string ((rd_T41 l0 x7_1).f3.f2), .int .i64 ((rd_T41 l0 x7_1).f4), .int .i64 ((rd_T41 l0 x7_1).f5)] 41 (0, 0)) (by (with_reducible repeat (first | refine blk_drewN ?_ _ | refine blk_drew ?_ | refine blk_alloc ?_ _)); exact BK105.out) hb); have n1_ := Aside0.mk (below_step (by repeat (first | (with_reducible first | exact HB.out | apply below_alloc | apply pw_below_drewN | apply below_drew1 | refine below_set ?_ GE105.out) | exact HB.out)) hb); clear BK105; clear HB; have BK105 := n0_; have HB := n1_; clear n0_ n1_; (try clear hb); (try clear hb2); (try clear hk); (try clear hi)))
                        go_ret
                        exact ⟨by first | rfl | (simp [errW_none, errW_some] <;> rfl) | (simp [*, errW_none, errW_some] <;> rfl), by repeat (first | (with_reducible first | exact HB.out | apply below_alloc | apply pw_below_drewN | apply below_drew1 | refine below_set ?_ GE105.out) | exact HB.out)⟩
                  · rw [if_neg c23] at H
                    have c23b0 : (((rd_T41 l0 x7_1).f2) == (-1)) = false := beq_eq_false_iff_ne.mpr c23
                    have c23b1 : (((rd_T41 l0 x7_1).f2) != (-1)) = true := bne_iff_ne.mpr c23
                    replace H := Option.bind_eq_some_iff.mp H
                    obtain ⟨t112, A320, H⟩ := H
                    replace H : (if t112 = true then (impl_RulesOk.l0 kj4 l0 l0 (l0.length : Int) (wrap64 (x7_1 + 1))) else (some false)) = some r := H
                    have A32 := Aside0.mk A320
                    clear A320
                    by_cases c33 : t112 = true
                    · subst c33
                      have H1 : (impl_RulesOk.l0 kj4 l0 l0 (l0.length : Int) (wrap64 (x7_1 + 1))) = some r := by rw [if_pos rfl] at H; exact H
                      clear H
                      have H := H1
                      clear H1
                      have H' := Aside0.mk H
                      clear H
                      have hcz34_0 : wc.cell? ⟨gb105, 0, none⟩ = some (.int .i64 ((rd_T41 l0 x7_1).f0)) := (blk_cell BK105.out 0).trans rfl
                      have hcz34_1 : wc.cell? ⟨gb105, 1, none⟩ = some (.int .i64 ((rd_T41 l0 x7_1).f1)) := (blk_cell BK105.out 1).trans rfl
                      have hcz34_2 : wc.cell? ⟨gb105, 2, none⟩ = some (.int .i64 ((rd_T41 l0 x7_1).f2)) := (blk_cell BK105.out 2).trans rfl
                      have hcz34_3 : wc.cell? ⟨gb105, 3, none⟩ = some (.int .i64 ((rd_T41 l0 x7_1).f3.f0)) := (blk_cell BK105.out 3).trans rfl
                      have hcz34_4 : wc.cell? ⟨gb105, 4, none⟩ = some (.int .i64 ((rd_T41 l0 x7_1).f3.f1)) := (blk_cell BK105.out 4).trans rfl
                      have hcz34_5 : wc.cell? ⟨gb105, 5, none⟩ = some (.string ((rd_T41 l0 x7_1).f3.f2)) := (blk_cell BK105.out 5).trans rfl
                      have hcz34_6 : wc.cell? ⟨gb105, 6, none⟩ = some (.int .i64 ((rd_T41 l0 x7_1).f4)) := (blk_cell BK105.out 6).trans rfl
                      have hcz34_7 : wc.cell? ⟨gb105, 7, none⟩ = some (.int .i64 ((rd_T41 l0 x7_1).f5)) := (blk_cell BK105.out 7).trans rfl
                      have hfz34_0 := blk_frozen BK105.out 0
                      have hfz34_1 := blk_frozen BK105.out 1
                      have hfz34_2 := blk_frozen BK105.out 2
                      have hfz34_3 := blk_frozen BK105.out 3
                      have hfz34_4 := blk_frozen BK105.out 4
                      have hfz34_5 := blk_frozen BK105.out 5
                      have hfz34_6 := blk_frozen BK105.out 6
                      have hfz34_7 := blk_frozen BK105.out 7
                      go_wp2_with (first | (go_at_call 48; (with_reducible refine (impl_ValOk.calls kj4 ((rd_T41 l0 x7_1).f3.f0) ((rd_T41 l0 x7_1).f3.f1) ((rd_T41 l0 x7_1).f3.f2) true _ A32.out).mono ?_); rintro e w35 ⟨rfl, hb⟩; have n0_ := Aside0.mk (blk_below (g := gb105) (o := .cells #[.int .i64 ((rd_T41 l0 x7_1).f0), .int .i64 ((rd_T41 l0 x7_1).f1), .int .i64 ((rd_T41 l0 x7_1).f2), .int .i64 ((rd_T41 l0 x7_1).f3.f0), .int .i64 ((rd_T41 l0 x7_1).f3.f1), .string ((rd_T41 l0 x7_1).f3.f2), .int .i64 ((rd_T41 l0 x7_1).f4), .int .i64 ((rd_T41 l0 x7_1).f5)] 41 (0, 0)) (by (with_reducible repeat (first | refine blk_drewN ?_ _ | refine blk_drew ?_ | refine blk_alloc ?_ _)); exact BK105.out) hb); have n1_ := Aside0.mk (below_step (by repeat (first | (with_reducible first | exact HB.out | apply below_alloc | apply pw_below_drewN | apply below_drew1 | refine below_set ?_ GE105.out) | exact HB.out)) hb); clear BK105; clear HB; have BK105 := n0_; have HB := n1_; clear n0_ n1_; (try clear hb); (try clear hb2); (try clear hk); (try clear hi)))
                      go_roundg kj4
                      case measure => have := HK1.out; have := HJ4.out; omega
                      case rel => exact ⟨(wrap64 (x7_1 + 1)), (by first | rfl | (simp; done) | (simp [*]; done)), H', ⟨by have := HK1.out; have := HJ4.out; omega⟩, ⟨by repeat (first | (with_reducible first | exact HB.out | apply below_alloc | apply pw_below_drewN | apply below_drew1 | refine below_set ?_ GE105.out) | exact HB.out)⟩⟩
                    · replace c33 := Bool.eq_false_iff.mpr c33
                      subst c33
                      have H1 : (some false) = some r := by rw [if_neg (show ¬ (false = true) by decide)] at H; exact H
                      clear H
                      have H := H1
                      clear H1
                      obtain rfl := Option.some.inj H
                      have hcz36_0 : wc.cell? ⟨gb105, 0, none⟩ = some (.int .i64 ((rd_T41 l0 x7_1).f0)) := (blk_cell BK105.out 0).trans rfl
                      have hcz36_1 : wc.cell? ⟨gb105, 1, none⟩ = some (.int .i64 ((rd_T41 l0 x7_1).f1)) := (blk_cell BK105.out 1).trans rfl
                      have hcz36_2 : wc.cell? ⟨gb105, 2, none⟩ = some (.int .i64 ((rd_T41 l0 x7_1).f2)) := (blk_cell BK105.out 2).trans rfl
                      have hcz36_3 : wc.cell? ⟨gb105, 3, none⟩ = some (.int .i64 ((rd_T41 l0 x7_1).f3.f0)) := (blk_cell BK105.out 3).trans rfl
                      have hcz36_4 : wc.cell? ⟨gb105, 4, none⟩ = some (.int .i64 ((rd_T41 l0 x7_1).f3.f1)) := (blk_cell BK105.out 4).trans rfl
                      have hcz36_5 : wc.cell? ⟨gb105, 5, none⟩ = some (.string ((rd_T41 l0 x7_1).f3.f2)) := (blk_cell BK105.out 5).trans rfl
                      have hcz36_6 : wc.cell? ⟨gb105, 6, none⟩ = some (.int .i64 ((rd_T41 l0 x7_1).f4)) := (blk_cell BK105.out 6).trans rfl
                      have hcz36_7 : wc.cell? ⟨gb105, 7, none⟩ = some (.int .i64 ((rd_T41 l0 x7_1).f5)) := (blk_cell BK105.out 7).trans rfl
                      have hfz36_0 := blk_frozen BK105.out 0
                      have hfz36_1 := blk_frozen BK105.out 1
                      have hfz36_2 := blk_frozen BK105.out 2
                      have hfz36_3 := blk_frozen BK105.out 3
                      have hfz36_4 := blk_frozen BK105.out 4
                      have hfz36_5 := blk_frozen BK105.out 5
                      have hfz36_6 := blk_frozen BK105.out 6
                      have hfz36_7 := blk_frozen BK105.out 7
                      go_wp2_with (first | (go_at_call 48; (with_reducible refine (impl_ValOk.calls kj4 ((rd_T41 l0 x7_1).f3.f0) ((rd_T41 l0 x7_1).f3.f1) ((rd_T41 l0 x7_1).f3.f2) false _ A32.out).mono ?_); rintro e w37 ⟨rfl, hb⟩; have n0_ := Aside0.mk (blk_below (g := gb105) (o := .cells #[.int .i64 ((rd_T41 l0 x7_1).f0), .int .i64 ((rd_T41 l0 x7_1).f1), .int .i64 ((rd_T41 l0 x7_1).f2), .int .i64 ((rd_T41 l0 x7_1).f3.f0), .int .i64 ((rd_T41 l0 x7_1).f3.f1), .string ((rd_T41 l0 x7_1).f3.f2), .int .i64 ((rd_T41 l0 x7_1).f4), .int .i64 ((rd_T41 l0 x7_1).f5)] 41 (0, 0)) (by (with_reducible repeat (first | refine blk_drewN ?_ _ | refine blk_drew ?_ | refine blk_alloc ?_ _)); exact BK105.out) hb); have n1_ := Aside0.mk (below_step (by repeat (first | (with_reducible first | exact HB.out | apply below_alloc | apply pw_below_drewN | apply below_drew1 | refine below_set ?_ GE105.out) | exact HB.out)) hb); clear BK105; clear HB; have BK105 := n0_; have HB := n1_; clear n0_ n1_; (try clear hb); (try clear hb2); (try clear hk); (try clear hi)))
                      go_ret
                      exact ⟨by first | rfl | (simp [errW_none, errW_some] <;> rfl) | (simp [*, errW_none, errW_some] <;> rfl), by repeat (first | (with_reducible first | exact HB.out | apply below_alloc | apply pw_below_drewN | apply below_drew1 | refine below_set ?_ GE105.out) | exact HB.out)⟩
          · rw [if_neg c4] at H
            exact absurd H (by simp)
        · rw [if_neg c3] at H
          exact absurd H (by simp)
      · rw [if_neg c2] at H
        have c2b0 : decide (x7_1 < (l0.length : Int)) = false := decide_eq_false c2
        clear c2
        obtain rfl := Option.some.inj H
        go_wp2
        go_ret
        exact ⟨by first | rfl | (simp [errW_none, errW_some] <;> rfl) | (simp [*, errW_none, errW_some] <;> rfl), by repeat (first | (with_reducible first | exact HB.out | apply below_alloc | apply pw_below_drewN | apply below_drew1) | exact HB.out)⟩

/-! ### spec_inRange: function 32 -/
def spec_inRange.f (a0 : Int) (a1 : Int) (a2 : Int) : Option (Bool) := if a0 ≥ a1 then (some (decide (a0 ≤ a2))) else (some false)
set_option maxHeartbeats 8000000 in
set_option maxRecDepth 100000 in
theorem spec_inRange.calls (a0 : Int) (a1 : Int) (a2 : Int) (r : Bool) (w : World) (h : spec_inRange.f a0 a1 a2 = some r) :
    Calls Try.prog 32 #[.int .i64 a0, .int .i64 a1, .int .i64 a2] w fun e w' => e = .returned (.bool r) ∧ Drawn0 w w' := by
  have H : (if a0 ≥ a1 then (some (decide (a0 ≤ a2))) else (some false)) = some r := h
  clear h
  by_cases c4 : a0 ≥ a1
  · rw [if_pos c4] at H
    have c4b0 : decide (a1 ≤ a0) = true := decide_eq_true c4
    clear c4
    obtain rfl := Option.some.inj H
    go_enter Try.func32, Try.ntmps32
    go_wp2
    go_ret
    exact ⟨by first | rfl | (simp; done) | (simp [*]; done), by repeat (first | exact Drawn0.refl _ | apply Drawn0.step)⟩
  · rw [if_neg c4] at H
    have c4b0 : decide (a1 ≤ a0) = false := decide_eq_false c4
    clear c4
    obtain rfl := Option.some.inj H
    go_enter Try.func32, Try.ntmps32
    go_wp2
    go_ret
    exact ⟨by first | rfl | (simp; done) | (simp [*]; done), by repeat (first | exact Drawn0.refl _ | apply Drawn0.step)⟩

/-! ### spec_plainByte: function 83 -/
def spec_plainByte.f (a0 : Int) : Option (Bool) := if a0 ≥ 97 then (if a0 ≤ 122 then (some true) else (if a0 ≥ 48 then (if a0 ≤ 57 then (some true) else (some (a0 == 32))) else (some (a0 == 32)))) else (if a0 ≥ 48 then (if a0 ≤ 57 then (some true) else (some (a0 == 32))) else (some (a0 == 32)))
set_option maxHeartbeats 8000000 in
set_option maxRecDepth 100000 in
theorem spec_plainByte.calls (a0 : Int) (r : Bool) (w : World) (h : spec_plainByte.f a0 = some r) :
    Calls Try.prog 83 #[.int .u8 a0] w fun e w' => e = .returned (.bool r) ∧ Drawn0 w w' := by
  have H : (if a0 ≥ 97 then (if a0 ≤ 122 then (some true) else (if a0 ≥ 48 then (if a0 ≤ 57 then (some true) else (some (a0 == 32))) else (some (a0 == 32)))) else (if a0 ≥ 48 then (if a0 ≤ 57 then (some true) else (some (a0 == 32))) else (some (a0 == 32)))) = some r := h
  clear h
  by_cases c2 : a0 ≥ 97
  · rw [if_pos c2] at H
    have c2b0 : decide (97 ≤ a0) = true := decide_eq_true c2
    clear c2
    by_cases c3 : a0 ≤ 122
    · rw [if_pos c3] at H
      have c3b0 : decide (a0 ≤ 122) = true := decide_eq_true c3
      clear c3
      obtain rfl := Option.some.inj H
      go_enter Try.func83, Try.ntmps83
      go_wp2
      go_ret
      exact ⟨by first | rfl | (simp; done) | (simp [*]; done), by repeat (first | exact Drawn0.refl _ | apply Drawn0.step)⟩
    · rw [if_neg c3] at H
      have c3b0 : decide (a0 ≤ 122) = false := decide_eq_false c3
      clear c3
      by_cases c4 : a0 ≥ 48
      · rw [if_pos c4] at H
        have c4b0 : decide (48 ≤ a0) = true := decide_eq_true c4
        clear c4
        by_cases c5 : a0 ≤ 57
        · rw [if_pos c5] at H
          have c5b0 : decide (a0 ≤ 57) = true := decide_eq_true c5
          clear c5
          obtain rfl := Option.some.inj H
          go_enter Try.func83, Try.ntmps83
          go_wp2
          go_ret
          exact ⟨by first | rfl | (simp; done) | (simp [*]; done), by repeat (first | exact Drawn0.refl _ | apply Drawn0.step)⟩
        · rw [if_neg c5] at H
          have c5b0 : decide (a0 ≤ 57) = false := decide_eq_false c5
          clear c5
          obtain rfl := Option.some.inj H
          go_enter Try.func83, Try.ntmps83
          go_wp2
          go_ret
          exact ⟨by first | rfl | (simp; done) | (simp [*]; done), by repeat (first | exact Drawn0.refl _ | apply Drawn0.step)⟩
      · rw [if_neg c4] at H
        have c4b0 : decide (48 ≤ a0) = false := decide_eq_false c4
        clear c4
        obtain rfl := Option.some.inj H
        go_enter Try.func83, Try.ntmps83
        go_wp2
        go_ret
        exact ⟨by first | rfl | (simp; done) | (simp [*]; done), by repeat (first | exact Drawn0.refl _ | apply Drawn0.step)⟩
  · rw [if_neg c2] at H
    have c2b0 : decide (97 ≤ a0) = false := decide_eq_false c2
    clear c2
    by_cases c6 : a0 ≥ 48
    · rw [if_pos c6] at H
      have c6b0 : decide (48 ≤ a0) = true := decide_eq_true c6
      clear c6
      by_cases c7 : a0 ≤ 57
      · rw [if_pos c7] at H
        have c7b0 : decide (a0 ≤ 57) = true := decide_eq_true c7
        clear c7
        obtain rfl := Option.some.inj H
        go_enter Try.func83, Try.ntmps83
        go_wp2
        go_ret
        exact ⟨by first | rfl | (simp; done) | (simp [*]; done), by repeat (first | exact Drawn0.refl _ | apply Drawn0.step)⟩
      · rw [if_neg c7] at H
        have c7b0 : decide (a0 ≤ 57) = false := decide_eq_false c7
        clear c7
        obtain rfl := Option.some.inj H
        go_enter Try.func83, Try.ntmps83
        go_wp2
        go_ret
        exact ⟨by first | rfl | (simp; done) | (simp [*]; done), by repeat (first | exact Drawn0.refl _ | apply Drawn0.step)⟩
    · rw [if_neg c6] at H
      have c6b0 : decide (48 ≤ a0) = false := decide_eq_false c6
      clear c6
      obtain rfl := Option.some.inj H
      go_enter Try.func83, Try.ntmps83
      go_wp2
      go_ret
      exact ⟨by first | rfl | (simp; done) | (simp [*]; done), by repeat (first | exact Drawn0.refl _ | apply Drawn0.step)⟩

/-! ### spec_validWord: function 75 -/
def spec_validWord.l0 : Nat → ByteArray → Int → Option (Bool)
  | 0, _, _ => none
  | k + 1, x0, x3 => if x3 < (x0.size : Int) then (if 0 ≤ x3 then ((spec_plainByte.f (bt x0 x3)).bind fun t113 => (if t113 = true then (spec_validWord.l0 k x0 (wrap64 (x3 + 1))) else (some false))) else (none)) else (some true)
def spec_validWord.f (k : Nat) (a0 : ByteArray) : Option (Bool) := if (a0.size : Int) > 12 then (some false) else (spec_validWord.l0 k a0 0)
theorem spec_validWord.mono_l : ∀ k, (∀ y0 y1, LeO (spec_validWord.l0 k y0 y1) (spec_validWord.l0 (k + 1) y0 y1))
  | 0 => fun _ _ r h => by simp [spec_validWord.l0] at h
  | k + 1 => by
    have ih0 := spec_validWord.mono_l k
    · intro y0 y1
      unfold spec_validWord.l0
      repeat' first
      | (with_reducible exact ih0 _ _)
      | (with_reducible exact LeO.refl _)
      | (with_reducible exact LeO.none _)
      | (with_reducible refine LeO.ite ?_ ?_)
      | (with_reducible refine LeO.bind ?_ (fun _ => ?_))
      | exact ih0 _ _
      | exact LeO.none _
      | refine LeO.ite ?_ ?_
      | refine LeO.bind ?_ (fun _ => ?_)
theorem spec_validWord.mono : ∀ a0 k, LeO (spec_validWord.f k a0) (spec_validWord.f (k + 1) a0) := by
  intro a0 k
  have ih0 := spec_validWord.mono_l k
  unfold spec_validWord.f
  repeat' first
      | (with_reducible exact ih0 _ _)
      | (with_reducible exact LeO.refl _)
      | (with_reducible exact LeO.none _)
      | (with_reducible refine LeO.ite ?_ ?_)
      | (with_reducible refine LeO.bind ?_ (fun _ => ?_))
      | exact ih0 _ _
      | exact LeO.none _
      | refine LeO.ite ?_ ?_
      | refine LeO.bind ?_ (fun _ => ?_)
set_option maxHeartbeats 8000000 in
set_option maxRecDepth 100000 in
theorem spec_validWord.calls (k : Nat) (a0 : ByteArray) (r : Bool) (w : World) (h : spec_validWord.f k a0 = some r) :
    Calls Try.prog 75 #[.string a0] w fun e w' => e = .returned (.bool r) ∧ Drawn0 w w' := by
  have H : (if (a0.size : Int) > 12 then (some false) else (spec_validWord.l0 k a0 0)) = some r := h
  clear h
  by_cases c2 : (a0.size : Int) > 12
  · rw [if_pos c2] at H
    have c2b0 : decide (12 < (a0.size : Int)) = true := decide_eq_true c2
    have c2b1 : decide (12 < a0.size) = true := decide_eq_true (by omega)
    clear c2
    obtain rfl := Option.some.inj H
    go_enter Try.func75, Try.ntmps75
    go_wp2
    go_ret
    exact ⟨by first | rfl | (simp; done) | (simp [*]; done), by repeat (first | exact Drawn0.refl _ | apply Drawn0.step)⟩
  · rw [if_neg c2] at H
    have c2b0 : decide (12 < (a0.size : Int)) = false := decide_eq_false c2
    have c2b1 : decide (12 < a0.size) = false := decide_eq_false (by omega)
    clear c2
    have H' := Aside0.mk H
    clear H
    go_enter Try.func75, Try.ntmps75
    go_wp2
    go_loopg [3] k (fun kq v3 w' => ∃ (x3_1 : Int), v3 = .int .i64 x3_1 ∧ Aside0 (spec_validWord.l0 kq a0 x3_1 = some r) ∧ Aside0 (kq ≤ k) ∧ Drawn0 w w')
    case atStart => exact ⟨(0), (by first | rfl | (simp; done) | (simp [*]; done)), H', ⟨Nat.le_refl _⟩, by repeat (first | exact Drawn0.refl _ | apply Drawn0.step)⟩
    case round =>
      clear H'
      try clear c2
      try clear c2b0
      try clear c2b1
      try clear p2
      obtain ⟨x3_1, rfl, HA, HK1, ⟨m1, rfl⟩⟩ := hrel
      cases gk with
      | zero => exact absurd HA.out (by simp [spec_validWord.l0])
      | succ k1 =>
        have H := HA.out
        clear HA
        simp only [spec_validWord.l0] at H
        by_cases c3 : x3_1 < (a0.size : Int)
        · rw [if_pos c3] at H
          have c3b0 : decide (x3_1 < (a0.size : Int)) = true := decide_eq_true c3
          clear c3
          by_cases c4 : 0 ≤ x3_1
          · rw [if_pos c4] at H
            have c4b0 : decide (0 ≤ x3_1) = true := decide_eq_true c4
            clear c4
            replace H := Option.bind_eq_some_iff.mp H
            obtain ⟨t113, A60, H⟩ := H
            replace H : (if t113 = true then (spec_validWord.l0 k1 a0 (wrap64 (x3_1 + 1))) else (some false)) = some r := H
            have A6 := Aside0.mk A60
            clear A60
            by_cases c7 : t113 = true
            · subst c7
              have H1 : (spec_validWord.l0 k1 a0 (wrap64 (x3_1 + 1))) = some r := by rw [if_pos rfl] at H; exact H
              clear H
              have H := H1
              clear H1
              have H' := Aside0.mk H
              clear H
              have p5 : 0 ≤ (x3_1 : Int) := of_decide_eq_true (by first | (with_reducible assumption) | assumption)
              have q5 : x3_1 < (a0.size : Int) := of_decide_eq_true (by first | (with_reducible assumption) | assumption)
              have hx5 := bt_at a0 x3_1
              replace p5 := eq_true p5
              replace q5 := eq_true q5
              go_wp2_with (first | ((with_reducible refine gate_callee (f := 83) rfl ?_); refine goesL_ (some 16) rfl rfl Try.func83 (by kernel_rfl) rfl #[.int .u8 (bt a0 x3_1)] rfl (by (try simp only [List.map_toArray, List.map_cons, List.map_nil]); first | done | rfl | (simp only [List.length_drop, List.length_take]; rfl)) ?_; (with_reducible refine (spec_plainByte.calls (bt a0 x3_1) true _ A6.out).mono ?_); rintro e w' ⟨rfl, ⟨nd, rfl⟩⟩; refine ⟨_, rfl, ?_⟩))
              go_roundg k1
              case measure => have := HK1.out; omega
              case rel => exact ⟨(wrap64 (x3_1 + 1)), (by first | rfl | (simp; done) | (simp [*]; done)), H', ⟨by have := HK1.out; omega⟩, by repeat (first | exact Drawn0.refl _ | apply Drawn0.step)⟩
            · replace c7 := Bool.eq_false_iff.mpr c7
              subst c7
              have H1 : (some false) = some r := by rw [if_neg (show ¬ (false = true) by decide)] at H; exact H
              clear H
              have H := H1
              clear H1
              obtain rfl := Option.some.inj H
              have p5 : 0 ≤ (x3_1 : Int) := of_decide_eq_true (by first | (with_reducible assumption) | assumption)
              have q5 : x3_1 < (a0.size : Int) := of_decide_eq_true (by first | (with_reducible assumption) | assumption)
              have hx5 := bt_at a0 x3_1
              replace p5 := eq_true p5
              replace q5 := eq_true q5
              go_wp2_with (first | ((with_reducible refine gate_callee (f := 83) rfl ?_); refine goesL_ (some 16) rfl rfl Try.func83 (by kernel_rfl) rfl #[.int .u8 (bt a0 x3_1)] rfl (by (try simp only [List.map_toArray, List.map_cons, List.map_nil]); first | done | rfl | (simp only [List.length_drop, List.length_take]; rfl)) ?_; (with_reducible refine (spec_plainByte.calls (bt a0 x3_1) false _ A6.out).mono ?_); rintro e w' ⟨rfl, ⟨nd, rfl⟩⟩; refine ⟨_, rfl, ?_⟩))
              go_ret
              exact ⟨by first | rfl | (simp; done) | (simp [*]; done), by repeat (first | exact Drawn0.refl _ | apply Drawn0.step)⟩
          · rw [if_neg c4] at H
            exact absurd H (by simp)
        · rw [if_neg c3] at H
          have c3b0 : decide (x3_1 < (a0.size : Int)) = false := decide_eq_false c3
          clear c3
          obtain rfl := Option.some.inj H
          go_wp2
          go_ret
          exact ⟨by first | rfl | (simp; done) | (simp [*]; done), by repeat (first | exact Drawn0.refl _ | apply Drawn0.step)⟩

end Go.Proofs.Ytnihohgbhnhbjaa.PFnExactRulesOk
