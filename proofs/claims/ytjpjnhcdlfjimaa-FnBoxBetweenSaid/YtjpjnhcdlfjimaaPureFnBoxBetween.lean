/- The pure statement of the law 'FnBoxBetween': for every list of bytes the law's function returns true (no condition but that of the form: the list's length). -/
import Derived.Test.YtjpjnhcdlfjimaaQFnBoxBetweenx6
namespace Go.Proofs.Ytjpjnhcdlfjimaa.Pure
open Go Go.RowKit Go.Proofs.Ytjpjnhcdlfjimaa.PFnBoxBetween Go.Proofs.YtjpjnhcdlfjimaaW.PrintWords Go.Proofs.YtjpjnhcdlfjimaaW.PrintLast
set_option linter.unusedVariables false
set_option linter.unusedSimpArgs false

theorem w64 {n : Int} (h1 : -9223372036854775808 ≤ n) (h2 : n ≤ 9223372036854775807) : wrap64 n = n := by
  unfold wrap64; omega
theorem wnext {i n : Nat} (h : i < n) (hn : n ≤ 4611686018427387904) : wrap64 ((i : Int) + 1) = ((i + 1 : Nat) : Int) := by
  rw [w64 (by omega) (by omega)]; omega
/-- A loop that goes up to n, by rounds. -/
theorem loop_up {n : Nat} (Q : Nat → Nat → Prop) (last : ∀ k, Q (k + 1) n) (step : ∀ k i, i < n → Q k (i + 1) → Q (k + 1) i) : ∀ k i, i ≤ n → n - i < k → Q k i := by
  intro k
  induction k with
  | zero => intro i _ h; omega
  | succ k ih =>
    intro i hi hk
    by_cases h : i = n
    · subst h; exact last k
    · exact step k i (by omega) (ih (i + 1) (by omega) (by omega))
theorem drop_at {α : Type} {l : List α} {i : Nat} (d : α) (h : i < l.length) : l.drop i = l.getD ((i : Int)).toNat d :: l.drop (i + 1) := by
  rw [List.drop_eq_getElem_cons h, List.getD_eq_getElem?_getD]
  simp [h]
theorem range_at {i n : Nat} (h : i < n) : List.range' i (n - i) = i :: List.range' (i + 1) (n - (i + 1)) := by
  rw [show n - i = (n - (i + 1)) + 1 by omega, List.range'_succ]
theorem range_end (n : Nat) : List.range' n (n - n) = [] := by simp
theorem bsome {α β : Type} (a : α) (f : α → Option β) : (some a).bind f = f a := by
  cases h : f a <;> simp [h]


/-- A source of draws: its bytes are bytes, and no more than 8000 of them are taken. -/
def Src (l : List Int) (a f : Int) : Prop := (∀ x ∈ l, 0 ≤ x ∧ x ≤ 255) ∧ 0 ≤ a ∧ 0 ≤ f ∧ a + 2 * f ≤ 8000

theorem rd_in {l : List Int} {i : Int} (h0 : 0 ≤ i) (h1 : i < (l.length : Int)) : rd l i ∈ l := by
  have h : i.toNat < l.length := by omega
  unfold rd
  rw [List.getD_eq_getElem?_getD, List.getElem?_eq_getElem h]
  exact List.getElem_mem h

theorem pick_tells {l : List Int} {a f : Int} (n : Int) (h : Src l a f) (k : Nat) (hk : 0 < k) :
    ∃ v a' f', spec_source_pick.f k l a f n = some (v, a', f') ∧ 0 ≤ v ∧ (v < n ∨ v = 0) ∧ Src l a' f' := by
  obtain ⟨hb, ha, hf, haf⟩ := h
  obtain ⟨k, rfl⟩ : ∃ m, k = m + 1 := ⟨k - 1, by omega⟩
  have stop : ∃ v a' f', spec_source_pick.j0 (k + 1) n true l a f = some (v, a', f') ∧ 0 ≤ v ∧ (v < n ∨ v = 0) ∧ Src l a' f' :=
    ⟨0, a, f, by simp [spec_source_pick.j0], by omega, Or.inr rfl, hb, ha, hf, haf⟩
  unfold spec_source_pick.f
  by_cases h1 : n ≤ 1
  · rw [if_pos h1]; exact stop
  rw [if_neg h1]
  by_cases h2 : f ≤ 0
  · rw [if_pos h2]; exact stop
  rw [if_neg h2]
  by_cases h3 : (l.length : Int) = 0
  · rw [show ((l.length : Int) == 0) = true from beq_iff_eq.mpr h3]; exact stop
  rw [show ((l.length : Int) == 0) = false from beq_eq_false_iff_ne.mpr h3]
  have hl : 0 < (l.length : Int) := by omega
  have m0 : 0 ≤ Int.tmod a (l.length : Int) := Int.tmod_nonneg _ ha
  have m1 : Int.tmod a (l.length : Int) < (l.length : Int) := Int.tmod_lt_of_pos _ hl
  have q0 : 0 ≤ Int.tdiv a (l.length : Int) := Int.tdiv_nonneg ha (by omega)
  have q1 : Int.tdiv a (l.length : Int) ≤ 8000 := by
    rw [Int.tdiv_eq_ediv_of_nonneg ha]
    have := Int.ediv_le_self (l.length : Int) ha
    omega
  have v0 := hb _ (rd_in m0 m1)
  simp only [spec_source_pick.j0]
  rw [if_neg (by simp), if_neg h3, if_pos m0, if_pos m1]
  generalize Int.tdiv a (l.length : Int) = q at *
  generalize rd l (Int.tmod a (l.length : Int)) = x at *
  rw [w64 (n := a + 1) (by omega) (by omega), w64 (n := f - 1) (by omega) (by omega), w64 (n := x) (by omega) (by omega),
    w64 (n := q) (by omega) (by omega), w64 (n := q * 31) (by omega) (by omega), w64 (n := x + q * 31) (by omega) (by omega)]
  by_cases h4 : n > 256
  · have m0' : 0 ≤ Int.tmod (a + 1) (l.length : Int) := Int.tmod_nonneg _ (by omega)
    have m1' : Int.tmod (a + 1) (l.length : Int) < (l.length : Int) := Int.tmod_lt_of_pos _ hl
    have v1 := hb _ (rd_in m0' m1')
    generalize rd l (Int.tmod (a + 1) (l.length : Int)) = y at *
    rw [if_pos h4, if_pos m0', if_pos m1', if_neg (by omega), w64 (n := y) (by omega) (by omega),
      w64 (n := (x + q * 31) * 256) (by omega) (by omega), w64 (n := (x + q * 31) * 256 + y) (by omega) (by omega),
      w64 (n := a + 1 + 1) (by omega) (by omega)]
    exact ⟨_, _, _, rfl, Int.tmod_nonneg _ (by omega), Or.inl (Int.tmod_lt_of_pos _ (by omega)), hb, by omega, by omega, by omega⟩
  · rw [if_neg h4, if_neg (by omega)]
    exact ⟨_, _, _, rfl, Int.tmod_nonneg _ (by omega), Or.inl (Int.tmod_lt_of_pos _ (by omega)), hb, by omega, by omega, by omega⟩

theorem src_new {l : List Int} (h : ∀ x ∈ l, (Lit.int .u8 x).wf = true) : Src l 0 4000 := by
  refine ⟨fun x hx => ?_, by omega, by omega, by omega⟩
  have := h x hx
  simp only [Lit.wf, IntKind.min, IntKind.max, IntKind.signed, IntKind.bits, Bool.and_eq_true, decide_eq_true_eq] at this
  simp at this
  omega

theorem one_tells {l : List Int} {a f : Int} (l1 : List Int) (hl : l1 ≠ []) (h : Src l a f) (k : Nat) (hk : 0 < k) :
    ∃ v a' f', spec_source_one.f k l a f l1 = some (v, a', f') ∧ v ∈ l1 ∧ Src l a' f' := by
  obtain ⟨v, a', f', he, h0, h1, hs⟩ := pick_tells (l1.length : Int) h k hk
  have hp : 0 < (l1.length : Int) := by
    have := List.length_pos_iff.mpr hl
    omega
  have hv : v < (l1.length : Int) := by omega
  refine ⟨rd l1 v, a', f', ?_, rd_in h0 hv, hs⟩
  unfold spec_source_one.f
  rw [he]; simp only [Option.bind_some]
  rw [if_pos h0, if_pos hv]

theorem within_at (a b c : Int) : impl_within.f a b c = some (decide (b ≤ a ∧ a ≤ c)) := by
  unfold impl_within.f
  by_cases h : a ≥ b
  · rw [if_pos h]; congr 1; exact decide_eq_decide.mpr ⟨fun x => ⟨h, x⟩, fun x => x.2⟩
  · rw [if_neg h]; congr 1; exact (decide_eq_false fun x => h x.1).symm

theorem inRange_at (a b c : Int) : spec_inRange.f a b c = some (decide (b ≤ a ∧ a ≤ c)) := by
  unfold spec_inRange.f
  by_cases h : a ≥ b
  · rw [if_pos h]; congr 1; exact decide_eq_decide.mpr ⟨fun x => ⟨h, x⟩, fun x => x.2⟩
  · rw [if_neg h]; congr 1; exact (decide_eq_false fun x => h x.1).symm

def BOk (a0 a1 a2 a3 : Int) : Prop := (-100000 ≤ a0 ∧ a0 ≤ 100000) ∧ (-100000 ≤ a1 ∧ a1 ≤ 100000) ∧ (0 ≤ a2 ∧ a2 ≤ 100000) ∧ (0 ≤ a3 ∧ a3 ≤ 100000)
instance (a0 a1 a2 a3 : Int) : Decidable (BOk a0 a1 a2 a3) := by unfold BOk; exact inferInstance
theorem boxOk_at (a0 a1 a2 a3 : Int) : impl_boxOk.f a0 a1 a2 a3 = some (decide (BOk a0 a1 a2 a3)) := by
  unfold impl_boxOk.f BOk
  simp only [within_at, Option.bind_some]
  by_cases h0 : -100000 ≤ a0 ∧ a0 ≤ 100000 <;> by_cases h1 : -100000 ≤ a1 ∧ a1 ≤ 100000 <;> by_cases h2 : 0 ≤ a2 ∧ a2 ≤ 100000 <;> simp [h0, h1, h2]
theorem validBox_at (a0 a1 a2 a3 : Int) : spec_validBox.f a0 a1 a2 a3 = some (decide (BOk a0 a1 a2 a3)) := by
  unfold spec_validBox.f BOk
  simp only [inRange_at, Option.bind_some]
  by_cases h0 : -100000 ≤ a0 ∧ a0 ≤ 100000 <;> by_cases h1 : -100000 ≤ a1 ∧ a1 ≤ 100000 <;> by_cases h2 : 0 ≤ a2 ∧ a2 ≤ 100000 <;> simp [h0, h1, h2]

theorem mx_comm (a b : Int) : mx a b = mx b a := by unfold mx; split <;> split <;> omega
/-- What two segments have in common. -/
def seg (a c b d : Int) : Int := mx (mn (a + c) (b + d) - mx a b) 0
theorem boxMeet_is (a0 a1 a2 a3 b0 b1 b2 b3 : Int) : impl_BoxMeet.f a0 a1 a2 a3 b0 b1 b2 b3 =
    some (if BOk a0 a1 a2 a3 ∧ BOk b0 b1 b2 b3 then (mx a0 b0, mx a1 b1, seg a0 a2 b0 b2, seg a1 a3 b1 b3) else (0, 0, 0, 0)) := by
  unfold impl_BoxMeet.f impl_boxMeet.f
  simp only [boxOk_at, Option.bind_some]
  by_cases h0 : BOk a0 a1 a2 a3
  · by_cases h1 : BOk b0 b1 b2 b3
    · simp only [h0, h1, decide_true, if_true, and_self]
      obtain ⟨p0, p1, p2, p3⟩ := h0
      obtain ⟨q0, q1, q2, q3⟩ := h1
      rw [w64 (n := a0 + a2) (by omega) (by omega), w64 (n := b0 + b2) (by omega) (by omega), w64 (n := a1 + a3) (by omega) (by omega), w64 (n := b1 + b3) (by omega) (by omega)]
      have m0 : -200000 ≤ mn (a0 + a2) (b0 + b2) - mx a0 b0 ∧ mn (a0 + a2) (b0 + b2) - mx a0 b0 ≤ 300000 := by unfold mn mx; split <;> split <;> omega
      have m1 : -200000 ≤ mn (a1 + a3) (b1 + b3) - mx a1 b1 ∧ mn (a1 + a3) (b1 + b3) - mx a1 b1 ≤ 300000 := by unfold mn mx; split <;> split <;> omega
      rw [w64 (by omega) (by omega), w64 (by omega) (by omega)]
      rfl
    · simp [h0, h1]
  · simp [h0]

theorem stepOk_at (a b : Int) : impl_stepOk.f a b = some (decide ((1 ≤ b ∧ b ≤ 100) ∧ (0 ≤ a ∧ a ≤ b))) := by
  unfold impl_stepOk.f
  simp only [within_at, Option.bind_some]
  by_cases h : 1 ≤ b ∧ b ≤ 100 <;> simp [h]
theorem validStep_at (a b : Int) : spec_validStepOf.f a b = some (decide ((1 ≤ b ∧ b ≤ 100) ∧ (0 ≤ a ∧ a ≤ b))) := by
  unfold spec_validStepOf.f
  simp only [inRange_at, Option.bind_some]
  by_cases h : 1 ≤ b ∧ b ≤ 100 <;> simp [h]
theorem between_same (a b c d : Int) : impl_between.f a b c d = spec_between.f a b c d := rfl
theorem boxBetween_same (a0 a1 a2 a3 b0 b1 b2 b3 c d : Int) : impl_BoxBetween.f a0 a1 a2 a3 b0 b1 b2 b3 c d = spec_BoxBetween.f a0 a1 a2 a3 b0 b1 b2 b3 c d := by
  unfold impl_BoxBetween.f spec_BoxBetween.f impl_boxBetween.f spec_boxBetween.f
  simp only [boxOk_at, validBox_at, stepOk_at, validStep_at, between_same]
/-- A step of the way from a to b. -/
def btw (a b c d : Int) : Int := wrap64 (a + (wrap64 (Int.tdiv (wrap64 ((wrap64 (b - a)) * c)) d)))
theorem btw_at {a b c d : Int} (h : d ≠ 0) : spec_between.f a b c d = some (btw a b c d) := by
  unfold spec_between.f btw; rw [if_neg h]
theorem boxBetween_is (a0 a1 a2 a3 b0 b1 b2 b3 c d : Int) : spec_BoxBetween.f a0 a1 a2 a3 b0 b1 b2 b3 c d =
    some (if (BOk a0 a1 a2 a3 ∧ BOk b0 b1 b2 b3) ∧ (1 ≤ d ∧ d ≤ 100) ∧ (0 ≤ c ∧ c ≤ d) then (btw a0 b0 c d, btw a1 b1 c d, btw a2 b2 c d, btw a3 b3 c d) else (0, 0, 0, 0)) := by
  unfold spec_BoxBetween.f spec_boxBetween.f
  simp only [validBox_at, validStep_at, Option.bind_some]
  by_cases h0 : BOk a0 a1 a2 a3
  · by_cases h1 : BOk b0 b1 b2 b3
    · by_cases h2 : (1 ≤ d ∧ d ≤ 100) ∧ (0 ≤ c ∧ c ≤ d)
      · have hd : d ≠ 0 := by omega
        simp only [btw_at hd, Option.bind_some]
        simp [h0, h1, h2]
      · simp only [h0, h1, h2, decide_true, decide_false, if_true, and_false, if_false, Bool.false_eq_true]
    · simp [h0, h1]
  · simp [h0]

theorem meet_draw {l : List Int} (h : Src l 0 4000) : ∃ r, spec_DrawBoxMeet.f 1 l = some r := by
  unfold spec_DrawBoxMeet.f spec_newSource.f
  simp only [bsome]
  obtain ⟨v1, a1, f1, e1, -, -, s1⟩ := pick_tells 20 h 1 (by omega)
  rw [e1]; simp only [bsome]
  obtain ⟨v2, a2, f2, e2, -, s2⟩ := one_tells [0, wrap64 (v1 - 5), 100000, -100000] (by simp) s1 1 (by omega)
  rw [e2]; simp only [bsome]
  obtain ⟨v3, a3, f3, e3, -, -, s3⟩ := pick_tells 9 s2 1 (by omega)
  rw [e3]; simp only [bsome]
  obtain ⟨v4, a4, f4, e4, -, -, s4⟩ := pick_tells 20 s3 1 (by omega)
  rw [e4]; simp only [bsome]
  obtain ⟨v5, a5, f5, e5, -, s5⟩ := one_tells [v4, 0, 100000] (by simp) s4 1 (by omega)
  rw [e5]; simp only [bsome]
  obtain ⟨v6, a6, f6, e6, -, -, s6⟩ := pick_tells 9 s5 1 (by omega)
  rw [e6]; simp only [bsome]
  obtain ⟨v7, a7, f7, e7, -, -, s7⟩ := pick_tells 9 s6 1 (by omega)
  rw [e7]; simp only [bsome]
  obtain ⟨v8, a8, f8, e8, -, s8⟩ := one_tells [v6, v7, -1] (by simp) s7 1 (by omega)
  rw [e8]; simp only [bsome]
  obtain ⟨u1, a1, f1, e1, -, -, s1⟩ := pick_tells 20 s8 1 (by omega)
  rw [e1]; simp only [bsome]
  obtain ⟨u2, a2, f2, e2, -, s2⟩ := one_tells [0, wrap64 (u1 - 5), 100000, -100000] (by simp) s1 1 (by omega)
  rw [e2]; simp only [bsome]
  obtain ⟨u3, a3, f3, e3, -, -, s3⟩ := pick_tells 9 s2 1 (by omega)
  rw [e3]; simp only [bsome]
  obtain ⟨u4, a4, f4, e4, -, -, s4⟩ := pick_tells 20 s3 1 (by omega)
  rw [e4]; simp only [bsome]
  obtain ⟨u5, a5, f5, e5, -, s5⟩ := one_tells [u4, 0, 100000] (by simp) s4 1 (by omega)
  rw [e5]; simp only [bsome]
  obtain ⟨u6, a6, f6, e6, -, -, s6⟩ := pick_tells 9 s5 1 (by omega)
  rw [e6]; simp only [bsome]
  obtain ⟨u7, a7, f7, e7, -, -, s7⟩ := pick_tells 9 s6 1 (by omega)
  rw [e7]; simp only [bsome]
  obtain ⟨u8, a8, f8, e8, -, s8⟩ := one_tells [u6, u7, -1] (by simp) s7 1 (by omega)
  rw [e8]; simp only [bsome]
  exact ⟨_, rfl⟩

theorem btw_draw {l : List Int} (h : Src l 0 4000) : ∃ r, spec_DrawBoxBetween.f 1 l = some r := by
  unfold spec_DrawBoxBetween.f spec_newSource.f
  rw [bsome]
  obtain ⟨r, hr⟩ := meet_draw h
  rw [hr, bsome]
  obtain ⟨v1, a1, f1, e1, -, s1⟩ := one_tells [1, 2, 3, 10, 100, 0] (by simp) h 1 (by omega)
  rw [e1]; simp only [bsome]
  obtain ⟨v2, a2, f2, e2, -, -, s2⟩ := pick_tells (wrap64 (v1 + 1)) s1 1 (by omega)
  rw [e2]; simp only [bsome]
  obtain ⟨v3, a3, f3, e3, -, -, s3⟩ := pick_tells (wrap64 (v1 + 1)) s2 1 (by omega)
  rw [e3]; simp only [bsome]
  obtain ⟨v4, a4, f4, e4, -, s4⟩ := one_tells [0, v1, v2, v3, -1] (by simp) s3 1 (by omega)
  rw [e4]; simp only [bsome]
  exact ⟨_, rfl⟩
theorem btw_first {a b d : Int} (ha : -100000 ≤ a ∧ a ≤ 100000) (hb : -100000 ≤ b ∧ b ≤ 100000) (hd : 1 ≤ d ∧ d ≤ 100) : btw a b 0 d = a := by
  unfold btw
  rw [w64 (n := b - a) (by omega) (by omega), Int.mul_zero, w64 (n := 0) (by omega) (by omega), Int.zero_tdiv, w64 (n := 0) (by omega) (by omega), Int.add_zero, w64 (by omega) (by omega)]
theorem btw_last {a b d : Int} (ha : -100000 ≤ a ∧ a ≤ 100000) (hb : -100000 ≤ b ∧ b ≤ 100000) (hd : 1 ≤ d ∧ d ≤ 100) : btw a b d d = b := by
  have h1 : -20000000 ≤ (b - a) * d := by
    have : (-200000) * d ≤ (b - a) * d := Int.mul_le_mul_of_nonneg_right (by omega) (by omega)
    omega
  have h2 : (b - a) * d ≤ 20000000 := by
    have : (b - a) * d ≤ 200000 * d := Int.mul_le_mul_of_nonneg_right (by omega) (by omega)
    omega
  unfold btw
  rw [w64 (n := b - a) (by omega) (by omega), w64 (n := (b - a) * d) (by omega) (by omega), Int.mul_tdiv_cancel _ (by omega), w64 (n := b - a) (by omega) (by omega), w64 (by omega) (by omega)]
  omega
theorem boxOk_self {a0 a1 a2 a3 : Int} (h : (mx a0 a0, mx a1 a1, seg a0 a2 a0 a2, seg a1 a3 a1 a3) = (a0, a1, a2, a3) ∨ True) : True := trivial
theorem meet_self {a0 a1 a2 a3 x0 x1 x2 x3 : Int} (h : (if BOk a0 a1 a2 a3 ∧ BOk a0 a1 a2 a3 then (mx a0 a0, mx a1 a1, seg a0 a2 a0 a2, seg a1 a3 a1 a3) else (0, 0, 0, 0)) = (x0, x1, x2, x3))
    (hn : (!(x0 == a0) || (!(x1 == a1) || (!(x2 == a2) || (!(x3 == a3))))) = false) : BOk a0 a1 a2 a3 := by
  by_cases hb : BOk a0 a1 a2 a3
  · exact hb
  · simp only [hb, and_self, if_false, Prod.mk.injEq] at h
    obtain ⟨rfl, rfl, rfl, rfl⟩ := h
    simp at hn
    obtain ⟨rfl, rfl, rfl, rfl⟩ := hn
    unfold BOk; omega
theorem FnBoxBetween : laws_FnBoxBetween.Pure := by
  intro l _ _ hl
  refine ⟨1, ?_⟩
  unfold laws_FnBoxBetween.f
  by_cases hlen : (l.length : Int) > 1048576
  · rw [if_pos hlen]
  rw [if_neg hlen]
  obtain ⟨⟨a0, a1, a2, a3, b0, b1, b2, b3, c, d⟩, hr⟩ := btw_draw (src_new hl)
  rw [hr]
  simp only [bsome, boxBetween_same, boxBetween_is, boxMeet_is]
  generalize hX : (if (BOk a0 a1 a2 a3 ∧ BOk b0 b1 b2 b3) ∧ (1 ≤ d ∧ d ≤ 100) ∧ (0 ≤ c ∧ c ≤ d) then (btw a0 b0 c d, btw a1 b1 c d, btw a2 b2 c d, btw a3 b3 c d) else (0, 0, 0, 0)) = X
  generalize hA : (if BOk a0 a1 a2 a3 ∧ BOk a0 a1 a2 a3 then (mx a0 a0, mx a1 a1, seg a0 a2 a0 a2, seg a1 a3 a1 a3) else (0, 0, 0, 0)) = A
  generalize hB : (if BOk b0 b1 b2 b3 ∧ BOk b0 b1 b2 b3 then (mx b0 b0, mx b1 b1, seg b0 b2 b0 b2, seg b1 b3 b1 b3) else (0, 0, 0, 0)) = B
  simp only [beq_self_eq_true, Bool.and_self, if_true]
  have stop : laws_FnBoxBetween.j0 1 d true true a0 a1 a2 a3 b0 b1 b2 b3 = some true := rfl
  by_cases h1 : d < 1
  · rw [if_pos h1]; exact stop
  rw [if_neg h1]
  by_cases h2 : d > 100
  · rw [if_pos h2]; exact stop
  rw [if_neg h2]
  by_cases h3 : c < 0
  · rw [if_pos h3]; exact stop
  rw [if_neg h3]
  by_cases h4 : c > d
  · rw [if_pos h4]; exact stop
  rw [if_neg h4]
  obtain ⟨x0, x1, x2, x3⟩ := A
  obtain ⟨y0, y1, y2, y3⟩ := B
  simp only
  by_cases h5 : (!(x0 == a0) || (!(x1 == a1) || (!(x2 == a2) || (!(x3 == a3))))) = true
  · rw [if_pos h5]; exact stop
  rw [if_neg h5]
  cases h6 : (!(y0 == b0) || (!(y1 == b1) || (!(y2 == b2) || (!(y3 == b3))))) with
  | true => exact stop
  | false =>
    have ha := meet_self hA (by simpa using h5)
    have hb := meet_self hB h6
    have hd : 1 ≤ d ∧ d ≤ 100 := by omega
    have c0 : (BOk a0 a1 a2 a3 ∧ BOk b0 b1 b2 b3) ∧ (1 ≤ d ∧ d ≤ 100) ∧ ((0 : Int) ≤ 0 ∧ (0 : Int) ≤ d) := ⟨⟨ha, hb⟩, hd, by omega⟩
    have c1 : (BOk a0 a1 a2 a3 ∧ BOk b0 b1 b2 b3) ∧ (1 ≤ d ∧ d ≤ 100) ∧ (0 ≤ d ∧ d ≤ d) := ⟨⟨ha, hb⟩, hd, by omega⟩
    obtain ⟨p0, p1, p2, p3⟩ := ha
    obtain ⟨q0, q1, q2, q3⟩ := hb
    simp only [laws_FnBoxBetween.j0, boxBetween_same, boxBetween_is, Bool.false_eq_true, if_false, bsome, if_pos c0, if_pos c1]
    rw [btw_first p0 q0 hd, btw_first p1 q1 hd, btw_first (by omega) (by omega) hd, btw_first (by omega) (by omega) hd, btw_last p0 q0 hd, btw_last p1 q1 hd, btw_last (by omega) (by omega) hd, btw_last (by omega) (by omega) hd]
    simp

end Go.Proofs.Ytjpjnhcdlfjimaa.Pure
