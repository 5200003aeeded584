/- The pure statement of the law 'FnBoxMeet': for every list of bytes the law's function returns true (no condition but that of the form: the list's length). -/
import Derived.Test.YtegpmekkcnlmdaaQFnBoxMeetx4
namespace Go.Proofs.Ytegpmekkcnlmdaa.Pure
open Go Go.RowKit Go.Proofs.Ytegpmekkcnlmdaa.PFnBoxMeet Go.Proofs.YtegpmekkcnlmdaaW.PrintWords Go.Proofs.YtegpmekkcnlmdaaW.PrintLast
set_option linter.unusedVariables false
set_option linter.unusedSimpArgs false

theorem w64 {n : Int} (h1 : -9223372036854775808 ≤ n) (h2 : n ≤ 9223372036854775807) : wrap64 n = n := by
  unfold wrap64; omega

/-- A source of draws: its bytes are bytes, and no more than 8000 of them are taken. -/
def Src (l : List Int) (a f : Int) : Prop := (∀ x ∈ l, 0 ≤ x ∧ x ≤ 255) ∧ 0 ≤ a ∧ 0 ≤ f ∧ a + 2 * f ≤ 8000

theorem rd_in {l : List Int} {i : Int} (h0 : 0 ≤ i) (h1 : i < (l.length : Int)) : rd l i ∈ l := by
  have h : i.toNat < l.length := by omega
  unfold rd
  rw [List.getD_eq_getElem?_getD, List.getElem?_eq_getElem h]
  exact List.getElem_mem h

theorem pick_tells {l : List Int} {a f : Int} (n : Int) (h : Src l a f) (k : Nat) (hk : 0 < k) :
    ∃ v a' f', spec_source_pick.f k l a f n = some (v, a', f') ∧ 0 ≤ v ∧ (v < n ∨ v = 0) ∧ Src l a' f' := by
  obtain ⟨hb, ha, hf, haf⟩ := h
  obtain ⟨k, rfl⟩ : ∃ m, k = m + 1 := ⟨k - 1, by omega⟩
  have stop : ∃ v a' f', spec_source_pick.j0 (k + 1) n true l a f = some (v, a', f') ∧ 0 ≤ v ∧ (v < n ∨ v = 0) ∧ Src l a' f' :=
    ⟨0, a, f, by simp [spec_source_pick.j0], by omega, Or.inr rfl, hb, ha, hf, haf⟩
  unfold spec_source_pick.f
  by_cases h1 : n ≤ 1
  · rw [if_pos h1]; exact stop
  rw [if_neg h1]
  by_cases h2 : f ≤ 0
  · rw [if_pos h2]; exact stop
  rw [if_neg h2]
  by_cases h3 : (l.length : Int) = 0
  · rw [show ((l.length : Int) == 0) = true from beq_iff_eq.mpr h3]; exact stop
  rw [show ((l.length : Int) == 0) = false from beq_eq_false_iff_ne.mpr h3]
  have hl : 0 < (l.length : Int) := by omega
  have m0 : 0 ≤ Int.tmod a (l.length : Int) := Int.tmod_nonneg _ ha
  have m1 : Int.tmod a (l.length : Int) < (l.length : Int) := Int.tmod_lt_of_pos _ hl
  have q0 : 0 ≤ Int.tdiv a (l.length : Int) := Int.tdiv_nonneg ha (by omega)
  have q1 : Int.tdiv a (l.length : Int) ≤ 8000 := by
    rw [Int.tdiv_eq_ediv_of_nonneg ha]
    have := Int.ediv_le_self (l.length : Int) ha
    omega
  have v0 := hb _ (rd_in m0 m1)
  simp only [spec_source_pick.j0]
  rw [if_neg (by simp), if_neg h3, if_pos m0, if_pos m1]
  generalize Int.tdiv a (l.length : Int) = q at *
  generalize rd l (Int.tmod a (l.length : Int)) = x at *
  rw [w64 (n := a + 1) (by omega) (by omega), w64 (n := f - 1) (by omega) (by omega), w64 (n := x) (by omega) (by omega),
    w64 (n := q) (by omega) (by omega), w64 (n := q * 31) (by omega) (by omega), w64 (n := x + q * 31) (by omega) (by omega)]
  by_cases h4 : n > 256
  · have m0' : 0 ≤ Int.tmod (a + 1) (l.length : Int) := Int.tmod_nonneg _ (by omega)
    have m1' : Int.tmod (a + 1) (l.length : Int) < (l.length : Int) := Int.tmod_lt_of_pos _ hl
    have v1 := hb _ (rd_in m0' m1')
    generalize rd l (Int.tmod (a + 1) (l.length : Int)) = y at *
    rw [if_pos h4, if_pos m0', if_pos m1', if_neg (by omega), w64 (n := y) (by omega) (by omega),
      w64 (n := (x + q * 31) * 256) (by omega) (by omega), w64 (n := (x + q * 31) * 256 + y) (by omega) (by omega),
      w64 (n := a + 1 + 1) (by omega) (by omega)]
    exact ⟨_, _, _, rfl, Int.tmod_nonneg _ (by omega), Or.inl (Int.tmod_lt_of_pos _ (by omega)), hb, by omega, by omega, by omega⟩
  · rw [if_neg h4, if_neg (by omega)]
    exact ⟨_, _, _, rfl, Int.tmod_nonneg _ (by omega), Or.inl (Int.tmod_lt_of_pos _ (by omega)), hb, by omega, by omega, by omega⟩

theorem src_new {l : List Int} (h : ∀ x ∈ l, (Lit.int .u8 x).wf = true) : Src l 0 4000 := by
  refine ⟨fun x hx => ?_, by omega, by omega, by omega⟩
  have := h x hx
  simp only [Lit.wf, IntKind.min, IntKind.max, IntKind.signed, IntKind.bits, Bool.and_eq_true, decide_eq_true_eq] at this
  simp at this
  omega

theorem one_tells {l : List Int} {a f : Int} (l1 : List Int) (hl : l1 ≠ []) (h : Src l a f) (k : Nat) (hk : 0 < k) :
    ∃ v a' f', spec_source_one.f k l a f l1 = some (v, a', f') ∧ v ∈ l1 ∧ Src l a' f' := by
  obtain ⟨v, a', f', he, h0, h1, hs⟩ := pick_tells (l1.length : Int) h k hk
  have hp : 0 < (l1.length : Int) := by
    have := List.length_pos_iff.mpr hl
    omega
  have hv : v < (l1.length : Int) := by omega
  refine ⟨rd l1 v, a', f', ?_, rd_in h0 hv, hs⟩
  unfold spec_source_one.f
  rw [he]; simp only [Option.bind_some]
  rw [if_pos h0, if_pos hv]

theorem within_at (a b c : Int) : impl_within.f a b c = some (decide (b ≤ a ∧ a ≤ c)) := by
  unfold impl_within.f
  by_cases h : a ≥ b
  · rw [if_pos h]; congr 1; exact decide_eq_decide.mpr ⟨fun x => ⟨h, x⟩, fun x => x.2⟩
  · rw [if_neg h]; congr 1; exact (decide_eq_false fun x => h x.1).symm

theorem inRange_at (a b c : Int) : spec_inRange.f a b c = some (decide (b ≤ a ∧ a ≤ c)) := by
  unfold spec_inRange.f
  by_cases h : a ≥ b
  · rw [if_pos h]; congr 1; exact decide_eq_decide.mpr ⟨fun x => ⟨h, x⟩, fun x => x.2⟩
  · rw [if_neg h]; congr 1; exact (decide_eq_false fun x => h x.1).symm

def BOk (a0 a1 a2 a3 : Int) : Prop := (-100000 ≤ a0 ∧ a0 ≤ 100000) ∧ (-100000 ≤ a1 ∧ a1 ≤ 100000) ∧ (0 ≤ a2 ∧ a2 ≤ 100000) ∧ (0 ≤ a3 ∧ a3 ≤ 100000)
instance (a0 a1 a2 a3 : Int) : Decidable (BOk a0 a1 a2 a3) := by unfold BOk; exact inferInstance
theorem boxOk_at (a0 a1 a2 a3 : Int) : impl_boxOk.f a0 a1 a2 a3 = some (decide (BOk a0 a1 a2 a3)) := by
  unfold impl_boxOk.f BOk
  simp only [within_at, Option.bind_some]
  by_cases h0 : -100000 ≤ a0 ∧ a0 ≤ 100000 <;> by_cases h1 : -100000 ≤ a1 ∧ a1 ≤ 100000 <;> by_cases h2 : 0 ≤ a2 ∧ a2 ≤ 100000 <;> simp [h0, h1, h2]
theorem validBox_at (a0 a1 a2 a3 : Int) : spec_validBox.f a0 a1 a2 a3 = some (decide (BOk a0 a1 a2 a3)) := by
  unfold spec_validBox.f BOk
  simp only [inRange_at, Option.bind_some]
  by_cases h0 : -100000 ≤ a0 ∧ a0 ≤ 100000 <;> by_cases h1 : -100000 ≤ a1 ∧ a1 ≤ 100000 <;> by_cases h2 : 0 ≤ a2 ∧ a2 ≤ 100000 <;> simp [h0, h1, h2]

theorem mx_comm (a b : Int) : mx a b = mx b a := by unfold mx; split <;> split <;> omega
theorem boxMeet_same (a0 a1 a2 a3 b0 b1 b2 b3 : Int) : impl_BoxMeet.f a0 a1 a2 a3 b0 b1 b2 b3 = spec_BoxMeet.f a0 a1 a2 a3 b0 b1 b2 b3 := by
  unfold impl_BoxMeet.f spec_BoxMeet.f impl_boxMeet.f spec_meet.f
  simp only [boxOk_at, validBox_at, mx_comm 0]
/-- What two segments have in common. -/
def seg (a c b d : Int) : Int := mx (mn (a + c) (b + d) - mx a b) 0
theorem boxMeet_is (a0 a1 a2 a3 b0 b1 b2 b3 : Int) : impl_BoxMeet.f a0 a1 a2 a3 b0 b1 b2 b3 =
    some (if BOk a0 a1 a2 a3 ∧ BOk b0 b1 b2 b3 then (mx a0 b0, mx a1 b1, seg a0 a2 b0 b2, seg a1 a3 b1 b3) else (0, 0, 0, 0)) := by
  unfold impl_BoxMeet.f impl_boxMeet.f
  simp only [boxOk_at, Option.bind_some]
  by_cases h0 : BOk a0 a1 a2 a3
  · by_cases h1 : BOk b0 b1 b2 b3
    · simp only [h0, h1, decide_true, if_true, and_self]
      obtain ⟨p0, p1, p2, p3⟩ := h0
      obtain ⟨q0, q1, q2, q3⟩ := h1
      rw [w64 (n := a0 + a2) (by omega) (by omega), w64 (n := b0 + b2) (by omega) (by omega), w64 (n := a1 + a3) (by omega) (by omega), w64 (n := b1 + b3) (by omega) (by omega)]
      have m0 : -200000 ≤ mn (a0 + a2) (b0 + b2) - mx a0 b0 ∧ mn (a0 + a2) (b0 + b2) - mx a0 b0 ≤ 300000 := by unfold mn mx; split <;> split <;> omega
      have m1 : -200000 ≤ mn (a1 + a3) (b1 + b3) - mx a1 b1 ∧ mn (a1 + a3) (b1 + b3) - mx a1 b1 ≤ 300000 := by unfold mn mx; split <;> split <;> omega
      rw [w64 (by omega) (by omega), w64 (by omega) (by omega)]
      rfl
    · simp [h0, h1]
  · simp [h0]

theorem seg_comm (a c b d : Int) : seg a c b d = seg b d a c := by unfold seg mx mn; repeat' split
                                                                   all_goals omega
theorem seg_in {a c b d : Int} (hc : 0 ≤ c ∧ c ≤ 100000) (hd : 0 ≤ d ∧ d ≤ 100000) (h : seg a c b d ≠ 0) :
    seg (mx a b) (seg a c b d) a c = seg a c b d ∧ 0 ≤ seg a c b d ∧ seg a c b d ≤ 100000 := by
  generalize hs : seg a c b d = s at *
  unfold seg mx mn at *
  repeat' split
  all_goals (repeat' split at hs)
  all_goals omega
theorem draw_some {l : List Int} (h : Src l 0 4000) : ∃ r, spec_DrawBoxMeet.f 1 l = some r := by
  unfold spec_DrawBoxMeet.f spec_newSource.f
  simp only [Option.bind_some]
  obtain ⟨v1, a1, f1, e1, -, -, s1⟩ := pick_tells 20 h 1 (by omega)
  rw [e1]; simp only [Option.bind_some]
  obtain ⟨v2, a2, f2, e2, -, s2⟩ := one_tells [0, wrap64 (v1 - 5), 100000, -100000] (by simp) s1 1 (by omega)
  rw [e2]; simp only [Option.bind_some]
  obtain ⟨v3, a3, f3, e3, -, -, s3⟩ := pick_tells 9 s2 1 (by omega)
  rw [e3]; simp only [Option.bind_some]
  obtain ⟨v4, a4, f4, e4, -, -, s4⟩ := pick_tells 20 s3 1 (by omega)
  rw [e4]; simp only [Option.bind_some]
  obtain ⟨v5, a5, f5, e5, -, s5⟩ := one_tells [v4, 0, 100000] (by simp) s4 1 (by omega)
  rw [e5]; simp only [Option.bind_some]
  obtain ⟨v6, a6, f6, e6, -, -, s6⟩ := pick_tells 9 s5 1 (by omega)
  rw [e6]; simp only [Option.bind_some]
  obtain ⟨v7, a7, f7, e7, -, -, s7⟩ := pick_tells 9 s6 1 (by omega)
  rw [e7]; simp only [Option.bind_some]
  obtain ⟨v8, a8, f8, e8, -, s8⟩ := one_tells [v6, v7, -1] (by simp) s7 1 (by omega)
  rw [e8]; simp only [Option.bind_some]
  obtain ⟨u1, a1, f1, e1, -, -, s1⟩ := pick_tells 20 s8 1 (by omega)
  rw [e1]; simp only [Option.bind_some]
  obtain ⟨u2, a2, f2, e2, -, s2⟩ := one_tells [0, wrap64 (u1 - 5), 100000, -100000] (by simp) s1 1 (by omega)
  rw [e2]; simp only [Option.bind_some]
  obtain ⟨u3, a3, f3, e3, -, -, s3⟩ := pick_tells 9 s2 1 (by omega)
  rw [e3]; simp only [Option.bind_some]
  obtain ⟨u4, a4, f4, e4, -, -, s4⟩ := pick_tells 20 s3 1 (by omega)
  rw [e4]; simp only [Option.bind_some]
  obtain ⟨u5, a5, f5, e5, -, s5⟩ := one_tells [u4, 0, 100000] (by simp) s4 1 (by omega)
  rw [e5]; simp only [Option.bind_some]
  obtain ⟨u6, a6, f6, e6, -, -, s6⟩ := pick_tells 9 s5 1 (by omega)
  rw [e6]; simp only [Option.bind_some]
  obtain ⟨u7, a7, f7, e7, -, -, s7⟩ := pick_tells 9 s6 1 (by omega)
  rw [e7]; simp only [Option.bind_some]
  obtain ⟨u8, a8, f8, e8, -, s8⟩ := one_tells [u6, u7, -1] (by simp) s7 1 (by omega)
  rw [e8]; simp only [Option.bind_some]
  exact ⟨_, rfl⟩
theorem mx_in {a b lo hi : Int} (ha : lo ≤ a ∧ a ≤ hi) (hb : lo ≤ b ∧ b ≤ hi) : lo ≤ mx a b ∧ mx a b ≤ hi := by unfold mx; split <;> omega
theorem mx_mx (a b : Int) : mx (mx a b) a = mx a b := by unfold mx; repeat' split
                                                         all_goals omega
theorem j0_true {a0 a1 a2 a3 b0 b1 b2 b3 : Int} (ha : BOk a0 a1 a2 a3) (hb : BOk b0 b1 b2 b3) (h2 : seg a0 a2 b0 b2 ≠ 0) (h3 : seg a1 a3 b1 b3 ≠ 0) :
    laws_FnBoxMeet.j0 1 true false a0 a1 a2 a3 b0 b1 b2 b3 (mx a0 b0) (mx a1 b1) (seg a0 a2 b0 b2) (seg a1 a3 b1 b3) = some true := by
  obtain ⟨x1, x2, x3⟩ := seg_in ha.2.2.1 hb.2.2.1 h2
  obtain ⟨y1, y2, y3⟩ := seg_in ha.2.2.2 hb.2.2.2 h3
  obtain ⟨z1, z2, z3⟩ := seg_in hb.2.2.1 ha.2.2.1 (by rw [seg_comm]; exact h2)
  obtain ⟨t1, t2, t3⟩ := seg_in hb.2.2.2 ha.2.2.2 (by rw [seg_comm]; exact h3)
  rw [seg_comm b0, mx_comm b0] at z1
  rw [seg_comm b1, mx_comm b1] at t1
  have ho : BOk (mx a0 b0) (mx a1 b1) (seg a0 a2 b0 b2) (seg a1 a3 b1 b3) := ⟨mx_in ha.1 hb.1, mx_in ha.2.1 hb.2.1, ⟨x2, x3⟩, ⟨y2, y3⟩⟩
  have k0 : mx (mx a0 b0) b0 = mx a0 b0 := by rw [mx_comm a0, mx_mx]
  have k1 : mx (mx a1 b1) b1 = mx a1 b1 := by rw [mx_comm a1, mx_mx]
  simp only [laws_FnBoxMeet.j0, boxMeet_is, ha, hb, ho, and_self, if_true, Option.bind_some, Bool.false_eq_true, if_false, mx_mx, k0, k1, x1, y1, z1, t1,
    mx_comm b0 a0, mx_comm b1 a1, seg_comm b0 b2 a0 a2, seg_comm b1 b3 a1 a3, beq_self_eq_true, Bool.and_self]
theorem FnBoxMeet : laws_FnBoxMeet.Pure := by
  intro l _ _ hl
  refine ⟨1, ?_⟩
  unfold laws_FnBoxMeet.f
  by_cases hlen : (l.length : Int) > 1048576
  · rw [if_pos hlen]
  rw [if_neg hlen]
  obtain ⟨⟨a0, a1, a2, a3, b0, b1, b2, b3⟩, hr⟩ := draw_some (src_new hl)
  rw [hr]
  simp only [Option.bind_some, ← boxMeet_same, boxMeet_is, beq_self_eq_true, Bool.and_self, if_true]
  have stop : ∀ x0 x1 x2 x3, laws_FnBoxMeet.j0 1 true true a0 a1 a2 a3 b0 b1 b2 b3 x0 x1 x2 x3 = some true := by intro x0 x1 x2 x3; rfl
  by_cases h : BOk a0 a1 a2 a3 ∧ BOk b0 b1 b2 b3
  · simp only [h, and_self, if_true]
    by_cases h2 : seg a0 a2 b0 b2 = 0
    · rw [if_pos h2]; exact stop _ _ _ _
    rw [if_neg h2]
    by_cases h3 : seg a1 a3 b1 b3 = 0
    · rw [beq_iff_eq.mpr h3]; exact stop _ _ _ _
    rw [beq_eq_false_iff_ne.mpr h3]
    exact j0_true h.1 h.2 h2 h3
  · simp only [if_neg h, if_true]; exact stop _ _ _ _

end Go.Proofs.Ytegpmekkcnlmdaa.Pure
