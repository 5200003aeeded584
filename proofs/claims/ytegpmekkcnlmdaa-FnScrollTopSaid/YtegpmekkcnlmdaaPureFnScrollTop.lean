/- The pure statement of the law 'FnScrollTop': for every list of bytes the law's function returns true (no condition but that of the form: the list's length). -/
import Derived.Test.YtegpmekkcnlmdaaQFnScrollTopx1
namespace Go.Proofs.Ytegpmekkcnlmdaa.Pure
open Go Go.RowKit Go.Proofs.Ytegpmekkcnlmdaa.PFnScrollTop Go.Proofs.YtegpmekkcnlmdaaW.PrintWords Go.Proofs.YtegpmekkcnlmdaaW.PrintLast
set_option linter.unusedVariables false
set_option linter.unusedSimpArgs false

theorem w64 {n : Int} (h1 : -9223372036854775808 ≤ n) (h2 : n ≤ 9223372036854775807) : wrap64 n = n := by
  unfold wrap64; omega

/-- A source of draws: its bytes are bytes, and no more than 8000 of them are taken. -/
def Src (l : List Int) (a f : Int) : Prop := (∀ x ∈ l, 0 ≤ x ∧ x ≤ 255) ∧ 0 ≤ a ∧ 0 ≤ f ∧ a + 2 * f ≤ 8000

theorem rd_in {l : List Int} {i : Int} (h0 : 0 ≤ i) (h1 : i < (l.length : Int)) : rd l i ∈ l := by
  have h : i.toNat < l.length := by omega
  unfold rd
  rw [List.getD_eq_getElem?_getD, List.getElem?_eq_getElem h]
  exact List.getElem_mem h

theorem pick_tells {l : List Int} {a f : Int} (n : Int) (h : Src l a f) (k : Nat) (hk : 0 < k) :
    ∃ v a' f', spec_source_pick.f k l a f n = some (v, a', f') ∧ 0 ≤ v ∧ (v < n ∨ v = 0) ∧ Src l a' f' := by
  obtain ⟨hb, ha, hf, haf⟩ := h
  obtain ⟨k, rfl⟩ : ∃ m, k = m + 1 := ⟨k - 1, by omega⟩
  have stop : ∃ v a' f', spec_source_pick.j0 (k + 1) n true l a f = some (v, a', f') ∧ 0 ≤ v ∧ (v < n ∨ v = 0) ∧ Src l a' f' :=
    ⟨0, a, f, by simp [spec_source_pick.j0], by omega, Or.inr rfl, hb, ha, hf, haf⟩
  unfold spec_source_pick.f
  by_cases h1 : n ≤ 1
  · rw [if_pos h1]; exact stop
  rw [if_neg h1]
  by_cases h2 : f ≤ 0
  · rw [if_pos h2]; exact stop
  rw [if_neg h2]
  by_cases h3 : (l.length : Int) = 0
  · rw [show ((l.length : Int) == 0) = true from beq_iff_eq.mpr h3]; exact stop
  rw [show ((l.length : Int) == 0) = false from beq_eq_false_iff_ne.mpr h3]
  have hl : 0 < (l.length : Int) := by omega
  have m0 : 0 ≤ Int.tmod a (l.length : Int) := Int.tmod_nonneg _ ha
  have m1 : Int.tmod a (l.length : Int) < (l.length : Int) := Int.tmod_lt_of_pos _ hl
  have q0 : 0 ≤ Int.tdiv a (l.length : Int) := Int.tdiv_nonneg ha (by omega)
  have q1 : Int.tdiv a (l.length : Int) ≤ 8000 := by
    rw [Int.tdiv_eq_ediv_of_nonneg ha]
    have := Int.ediv_le_self (l.length : Int) ha
    omega
  have v0 := hb _ (rd_in m0 m1)
  simp only [spec_source_pick.j0]
  rw [if_neg (by simp), if_neg h3, if_pos m0, if_pos m1]
  generalize Int.tdiv a (l.length : Int) = q at *
  generalize rd l (Int.tmod a (l.length : Int)) = x at *
  rw [w64 (n := a + 1) (by omega) (by omega), w64 (n := f - 1) (by omega) (by omega), w64 (n := x) (by omega) (by omega),
    w64 (n := q) (by omega) (by omega), w64 (n := q * 31) (by omega) (by omega), w64 (n := x + q * 31) (by omega) (by omega)]
  by_cases h4 : n > 256
  · have m0' : 0 ≤ Int.tmod (a + 1) (l.length : Int) := Int.tmod_nonneg _ (by omega)
    have m1' : Int.tmod (a + 1) (l.length : Int) < (l.length : Int) := Int.tmod_lt_of_pos _ hl
    have v1 := hb _ (rd_in m0' m1')
    generalize rd l (Int.tmod (a + 1) (l.length : Int)) = y at *
    rw [if_pos h4, if_pos m0', if_pos m1', if_neg (by omega), w64 (n := y) (by omega) (by omega),
      w64 (n := (x + q * 31) * 256) (by omega) (by omega), w64 (n := (x + q * 31) * 256 + y) (by omega) (by omega),
      w64 (n := a + 1 + 1) (by omega) (by omega)]
    exact ⟨_, _, _, rfl, Int.tmod_nonneg _ (by omega), Or.inl (Int.tmod_lt_of_pos _ (by omega)), hb, by omega, by omega, by omega⟩
  · rw [if_neg h4, if_neg (by omega)]
    exact ⟨_, _, _, rfl, Int.tmod_nonneg _ (by omega), Or.inl (Int.tmod_lt_of_pos _ (by omega)), hb, by omega, by omega, by omega⟩

theorem src_new {l : List Int} (h : ∀ x ∈ l, (Lit.int .u8 x).wf = true) : Src l 0 4000 := by
  refine ⟨fun x hx => ?_, by omega, by omega, by omega⟩
  have := h x hx
  simp only [Lit.wf, IntKind.min, IntKind.max, IntKind.signed, IntKind.bits, Bool.and_eq_true, decide_eq_true_eq] at this
  simp at this
  omega

theorem one_tells {l : List Int} {a f : Int} (l1 : List Int) (hl : l1 ≠ []) (h : Src l a f) (k : Nat) (hk : 0 < k) :
    ∃ v a' f', spec_source_one.f k l a f l1 = some (v, a', f') ∧ v ∈ l1 ∧ Src l a' f' := by
  obtain ⟨v, a', f', he, h0, h1, hs⟩ := pick_tells (l1.length : Int) h k hk
  have hp : 0 < (l1.length : Int) := by
    have := List.length_pos_iff.mpr hl
    omega
  have hv : v < (l1.length : Int) := by omega
  refine ⟨rd l1 v, a', f', ?_, rd_in h0 hv, hs⟩
  unfold spec_source_one.f
  rw [he]; simp only [Option.bind_some]
  rw [if_pos h0, if_pos hv]

theorem within_at (a b c : Int) : impl_within.f a b c = some (decide (b ≤ a ∧ a ≤ c)) := by
  unfold impl_within.f
  by_cases h : a ≥ b
  · rw [if_pos h]; congr 1; exact decide_eq_decide.mpr ⟨fun x => ⟨h, x⟩, fun x => x.2⟩
  · rw [if_neg h]; congr 1; exact (decide_eq_false fun x => h x.1).symm

theorem inRange_at (a b c : Int) : spec_inRange.f a b c = some (decide (b ≤ a ∧ a ≤ c)) := by
  unfold spec_inRange.f
  by_cases h : a ≥ b
  · rw [if_pos h]; congr 1; exact decide_eq_decide.mpr ⟨fun x => ⟨h, x⟩, fun x => x.2⟩
  · rw [if_neg h]; congr 1; exact (decide_eq_false fun x => h x.1).symm

theorem mx_comm (a b : Int) : mx a b = mx b a := by unfold mx; split <;> split <;> omega
theorem scrollTop_same (a0 a1 a2 : Int) : impl_ScrollTop.f a0 a1 a2 = spec_ScrollTop.f a0 a1 a2 := by
  unfold impl_ScrollTop.f spec_ScrollTop.f spec_scrollTo.f
  simp only [within_at, inRange_at, Option.bind_some, mx_comm]
theorem scrollTop_is (a0 a1 a2 : Int) : spec_ScrollTop.f a0 a1 a2 = some (if (0 ≤ a0 ∧ a0 ≤ 100000) ∧ (0 ≤ a1 ∧ a1 ≤ 30) ∧ (-100000 ≤ a2 ∧ a2 ≤ 100000) then mx 0 (mn a2 (a0 - a1)) else -1) := by
  unfold spec_ScrollTop.f spec_scrollTo.f
  simp only [inRange_at, Option.bind_some]
  by_cases h0 : 0 ≤ a0 ∧ a0 ≤ 100000
  · by_cases h1 : 0 ≤ a1 ∧ a1 ≤ 30
    · by_cases h2 : -100000 ≤ a2 ∧ a2 ≤ 100000
      · rw [w64 (n := a0 - a1) (by omega) (by omega)]
        simp [h0, h1, h2]
      · simp [h0, h1, h2]
    · simp [h0, h1]
  · simp [h0]
theorem draw_some {l : List Int} (h : Src l 0 4000) : ∃ r, spec_DrawScrollTop.f 1 l = some r := by
  unfold spec_DrawScrollTop.f spec_newSource.f
  simp only [Option.bind_some]
  obtain ⟨v1, a1, f1, e1, -, -, s1⟩ := pick_tells 60 h 1 (by omega)
  rw [e1]; simp only [Option.bind_some]
  obtain ⟨v2, a2, f2, e2, -, s2⟩ := one_tells [0, 1, 10, 100, v1, -1] (by simp) s1 1 (by omega)
  rw [e2]; simp only [Option.bind_some]
  obtain ⟨v3, a3, f3, e3, -, -, s3⟩ := pick_tells 31 s2 1 (by omega)
  rw [e3]; simp only [Option.bind_some]
  obtain ⟨v4, a4, f4, e4, -, s4⟩ := one_tells [0, 1, 10, 30, v3] (by simp) s3 1 (by omega)
  rw [e4]; simp only [Option.bind_some]
  obtain ⟨v5, a5, f5, e5, -, -, s5⟩ := pick_tells 60 s4 1 (by omega)
  rw [e5]; simp only [Option.bind_some]
  obtain ⟨v6, a6, f6, e6, -, s6⟩ := one_tells [0, -5, 1000, v5] (by simp) s5 1 (by omega)
  rw [e6]; simp only [Option.bind_some]
  exact ⟨_, rfl⟩
theorem FnScrollTop : laws_FnScrollTop.Pure := by
  intro l _ _ hl
  refine ⟨1, ?_⟩
  unfold laws_FnScrollTop.f
  by_cases hlen : (l.length : Int) > 1048576
  · rw [if_pos hlen]
  rw [if_neg hlen]
  obtain ⟨⟨a0, a1, a2⟩, hr⟩ := draw_some (src_new hl)
  rw [hr]
  simp only [Option.bind_some, scrollTop_same, scrollTop_is, if_true]
  by_cases h : (0 ≤ a0 ∧ a0 ≤ 100000) ∧ (0 ≤ a1 ∧ a1 ≤ 30) ∧ (-100000 ≤ a2 ∧ a2 ≤ 100000)
  · rw [if_pos h]
    have hm : 0 ≤ mx 0 (mn a2 (a0 - a1)) := by unfold mx; split <;> omega
    rw [if_neg (by omega)]
    have hb : mx 0 (mn a2 (a0 - a1)) ≤ 100000 := by unfold mx mn; split <;> split <;> omega
    rw [if_pos ⟨h.1, h.2.1, by omega, hb⟩]
    simp only [Option.some.injEq, beq_iff_eq]
    unfold mx mn
    repeat' split
    all_goals omega
  · rw [if_neg h]
    simp

end Go.Proofs.Ytegpmekkcnlmdaa.Pure
