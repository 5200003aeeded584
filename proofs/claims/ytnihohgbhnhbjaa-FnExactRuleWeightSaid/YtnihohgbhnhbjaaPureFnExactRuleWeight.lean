/- The pure statement of the law 'FnExactRuleWeight': for every rule the law's function returns true, so the program's RuleWeight is the reference's (no other condition). -/
import Derived.Test.YtnihohgbhnhbjaaQFnExactRuleWeightx5
namespace Go.Proofs.Ytnihohgbhnhbjaa.Pure
open Go Go.RowKit Go.Proofs.Ytnihohgbhnhbjaa.PFnExactRuleWeight Go.Proofs.YtnihohgbhnhbjaaW.PrintWords Go.Proofs.YtnihohgbhnhbjaaW.PrintLast
set_option linter.unusedVariables false
set_option linter.unusedSimpArgs false

theorem w64 {n : Int} (h1 : -9223372036854775808 ≤ n) (h2 : n ≤ 9223372036854775807) : wrap64 n = n := by
  unfold wrap64; omega
theorem wnext {i n : Nat} (h : i < n) (hn : n ≤ 4611686018427387904) : wrap64 ((i : Int) + 1) = ((i + 1 : Nat) : Int) := by
  rw [w64 (by omega) (by omega)]; omega
/-- A loop that goes up to n, by rounds. -/
theorem loop_up {n : Nat} (Q : Nat → Nat → Prop) (last : ∀ k, Q (k + 1) n) (step : ∀ k i, i < n → Q k (i + 1) → Q (k + 1) i) : ∀ k i, i ≤ n → n - i < k → Q k i := by
  intro k
  induction k with
  | zero => intro i _ h; omega
  | succ k ih =>
    intro i hi hk
    by_cases h : i = n
    · subst h; exact last k
    · exact step k i (by omega) (ih (i + 1) (by omega) (by omega))
theorem drop_at {α : Type} {l : List α} {i : Nat} (d : α) (h : i < l.length) : l.drop i = l.getD ((i : Int)).toNat d :: l.drop (i + 1) := by
  rw [List.drop_eq_getElem_cons h, List.getD_eq_getElem?_getD]
  simp [h]
theorem range_at {i n : Nat} (h : i < n) : List.range' i (n - i) = i :: List.range' (i + 1) (n - (i + 1)) := by
  rw [show n - i = (n - (i + 1)) + 1 by omega, List.range'_succ]
theorem range_end (n : Nat) : List.range' n (n - n) = [] := by simp
theorem bsome {α β : Type} (a : α) (f : α → Option β) : (some a).bind f = f a := by
  cases h : f a <;> simp [h]

theorem getD_at {α : Type} {l : List α} {i : Nat} (d : α) (h : i < l.length) : l.getD ((i : Int)).toNat d = l[i] := by
  simp [List.getD_eq_getElem?_getD, h]
theorem drop_cons {α : Type} {l : List α} {i : Nat} (h : i < l.length) : l.drop i = l[i] :: l.drop (i + 1) := List.drop_eq_getElem_cons h
/-- A loop that goes up to n, s rounds a turn, with m rounds to spare. -/
theorem loop_s {n m s : Nat} (hs : 0 < s) (Q : Nat → Nat → Prop) (last : ∀ k, m ≤ k → Q (k + 1) n) (step : ∀ k i, i < n → m ≤ k → Q k (i + 1) → Q (k + s) i) : ∀ d i k, n - i = d → i ≤ n → d * s + m < k → Q k i := by
  intro d
  induction d with
  | zero =>
    intro i k hd hi hk
    obtain rfl : i = n := by omega
    obtain ⟨k, rfl⟩ : ∃ q, k = q + 1 := ⟨k - 1, by omega⟩
    exact last k (by omega)
  | succ d ih =>
    intro i k hd hi hk
    rw [Nat.add_mul, Nat.one_mul] at hk
    obtain ⟨k, rfl⟩ : ∃ q, k = q + s := ⟨k - s, by omega⟩
    exact step k i (by omega) (by omega) (ih (i + 1) k (by omega) (by omega) (by omega))
/-- A loop that asks each element. -/
theorem all_loop {α : Type} (xs : List α) (F : Nat → Int → Option Bool) (p : α → Bool) (fin : Bool) (m s : Nat) (hs : 0 < s)
    (hend : ∀ k, m ≤ k → F (k + 1) (xs.length : Int) = some fin)
    (hstep : ∀ k i (h : i < xs.length), m ≤ k → F (k + s) (i : Int) = if p xs[i] = true then F k ((i + 1 : Nat) : Int) else some false) :
    ∀ k, xs.length * s + m < k → F k 0 = some (xs.all p && fin) := by
  intro k hk
  have := loop_s (n := xs.length) (m := m) (s := s) hs (fun k i => F k (i : Int) = some ((xs.drop i).all p && fin)) (fun k hm => by show F (k + 1) (xs.length : Int) = _; rw [hend k hm, List.drop_length]; rfl)
    (fun k i h hm ih => by
      show F (k + s) (i : Int) = _
      rw [hstep k i h hm, drop_cons h, List.all_cons]
      have ih' : F k ((i + 1 : Nat) : Int) = some ((xs.drop (i + 1)).all p && fin) := ih
      rw [ih']
      by_cases hp : p xs[i] = true <;> simp [hp]) xs.length 0 k (by omega) (by omega) hk
  simpa using this
/-- A loop that fills a new list with what a function makes of each element. -/
theorem map_loop {α β : Type} (xs : List α) (F : Nat → List β → Int → Option (List β)) (c : α → β) (z : β) (m s : Nat) (hs : 0 < s)
    (hend : ∀ k acc, m ≤ k → F (k + 1) acc (xs.length : Int) = some acc)
    (hstep : ∀ k (acc : List β) i (h : i < xs.length), m ≤ k → i < acc.length → F (k + s) acc (i : Int) = F k (acc.set i (c xs[i])) ((i + 1 : Nat) : Int)) :
    ∀ k, xs.length * s + m < k → F k (List.replicate xs.length z) 0 = some (xs.map c) := by
  intro k hk
  have := loop_s (n := xs.length) (m := m) (s := s) hs (fun k i => ∀ p : List β, p.length = i → F k (p ++ List.replicate (xs.length - i) z) (i : Int) = some (p ++ (xs.drop i).map c))
    (fun k hm p hp => by rw [hend k _ hm]; simp)
    (fun k i h hm ih p hp => by
      rw [hstep k _ i h hm (by simp; omega), show xs.length - i = (xs.length - (i + 1)) + 1 by omega, List.replicate_succ]
      have e : (p ++ z :: List.replicate (xs.length - (i + 1)) z).set i (c xs[i]) = (p ++ [c xs[i]]) ++ List.replicate (xs.length - (i + 1)) z := by
        subst hp; simp
      rw [e, ih (p ++ [c xs[i]]) (by simp [hp]), drop_cons h, List.map_cons, List.append_assoc]; rfl) xs.length 0 k (by omega) (by omega) hk [] rfl
  simpa using this
/-- A loop that takes the sizes of the elements off what is left. -/
theorem sz_loop {α : Type} (xs : List α) (F : Nat → Int → Int → Option Int) (sz : α → Nat) (m s : Nat) (hs : 0 < s)
    (hend : ∀ (k : Nat) (left : Int), m ≤ k → F (k + 1) left (xs.length : Int) = some left)
    (hstep : ∀ (k : Nat) (left : Int) (i : Nat) (h : i < xs.length), m ≤ k → 0 ≤ left → left ≤ 1048576 → ∃ t, t ≤ left ∧ (0 ≤ t → t = left - sz xs[i]) ∧ F (k + s) left (i : Int) = if t < 0 then some (-1) else F k t ((i + 1 : Nat) : Int)) :
    ∀ (k : Nat) (left : Int), xs.length * s + m < k → 0 ≤ left → left ≤ 1048576 → ∃ r, F k left 0 = some r ∧ r ≤ left ∧ (0 ≤ r → r = left - (xs.map sz).sum) := by
  intro k left hk h0 h1
  have := loop_s (n := xs.length) (m := m) (s := s) hs (fun k i => ∀ left : Int, 0 ≤ left → left ≤ 1048576 → ∃ r, F k left (i : Int) = some r ∧ r ≤ left ∧ (0 ≤ r → r = left - ((xs.drop i).map sz).sum))
    (fun k hm left h0 h1 => ⟨left, by rw [hend k _ hm], by omega, by simp⟩)
    (fun k i h hm ih left h0 h1 => by
      obtain ⟨t, t1, t2, t3⟩ := hstep k left i h hm h0 h1
      by_cases ht : t < 0
      · exact ⟨-1, by rw [t3, if_pos ht], by omega, by omega⟩
      · obtain ⟨r, r1, r2, r3⟩ := ih t (by omega) (by omega)
        refine ⟨r, by rw [t3, if_neg ht, r1], by omega, fun hr => ?_⟩
        rw [r3 hr, t2 (by omega), drop_cons h, List.map_cons, List.sum_cons]; omega) xs.length 0 k (by omega) (by omega) hk left h0 h1
  simpa using this
theorem sum_mem {α : Type} {xs : List α} {sz : α → Nat} {x : α} (h : x ∈ xs) : sz x ≤ (xs.map sz).sum := by
  induction xs with
  | nil => cases h
  | cons y ys ih =>
    rw [List.map_cons, List.sum_cons]
    rcases List.mem_cons.1 h with rfl | h
    · omega
    · have := ih h; omega

theorem within_at (a b c : Int) : impl_within.f a b c = some (decide (b ≤ a ∧ a ≤ c)) := by
  unfold impl_within.f
  by_cases h : a ≥ b
  · rw [if_pos h]; congr 1; exact decide_eq_decide.mpr ⟨fun x => ⟨h, x⟩, fun x => x.2⟩
  · rw [if_neg h]; congr 1; exact (decide_eq_false fun x => h x.1).symm

theorem inRange_at (a b c : Int) : spec_inRange.f a b c = some (decide (b ≤ a ∧ a ≤ c)) := by
  unfold spec_inRange.f
  by_cases h : a ≥ b
  · rw [if_pos h]; congr 1; exact decide_eq_decide.mpr ⟨fun x => ⟨h, x⟩, fun x => x.2⟩
  · rw [if_neg h]; congr 1; exact (decide_eq_false fun x => h x.1).symm

def Good (c : Int) : Prop := (97 ≤ c ∧ c ≤ 122) ∨ (48 ≤ c ∧ c ≤ 57) ∨ c = 32
instance (c : Int) : Decidable (Good c) := by unfold Good; exact inferInstance
def goodsFrom (s : ByteArray) (i : Nat) : Bool := (List.range' i (s.size - i)).all fun j => decide (Good (bt s j))
theorem goods_at {s : ByteArray} {i : Nat} (h : i < s.size) : goodsFrom s i = (decide (Good (bt s i)) && goodsFrom s (i + 1)) := by
  unfold goodsFrom; rw [range_at h]; rfl
theorem goods_end (s : ByteArray) : goodsFrom s s.size = true := by
  unfold goodsFrom; rw [range_end]; rfl
def wordOk (s : ByteArray) : Bool := goodsFrom s 0 && decide (s.size ≤ 12)
theorem impl_word_l (s : ByteArray) (hs : s.size ≤ 4611686018427387904) : ∀ k i, i ≤ s.size → s.size - i < k → impl_word.l0 k s (i : Int) = some (goodsFrom s i && decide (s.size ≤ 12)) := by
  refine loop_up (fun k i => impl_word.l0 k s (i : Int) = some (goodsFrom s i && decide (s.size ≤ 12))) ?_ ?_
  · intro k
    simp only [impl_word.l0]
    rw [if_neg (by omega), goods_end, Bool.true_and]
    congr 1; exact decide_eq_decide.mpr (by omega)
  · intro k i hi ih
    have e : impl_word.l0 (k + 1) s (i : Int) = if Good (bt s i) then impl_word.l0 k s (wrap64 ((i : Int) + 1)) else some false := by
      simp only [impl_word.l0]
      rw [if_pos (by omega), if_pos (by omega)]
      by_cases hg : Good (bt s i)
      · rw [if_pos hg]; unfold Good at hg
        repeat' split
        all_goals first
          | rfl
          | (exfalso; omega)
      · rw [if_neg hg]; unfold Good at hg
        repeat' split
        all_goals first
          | rfl
          | (exfalso; omega)
    rw [e, wnext hi hs, ih, goods_at hi]
    by_cases hg : Good (bt s i) <;> simp [hg]
theorem impl_word_at (s : ByteArray) (hs : s.size ≤ 4611686018427387904) (k : Nat) (hk : s.size < k) : impl_word.f k s = some (wordOk s) := by
  have := impl_word_l s hs k 0 (by omega) (by omega)
  unfold impl_word.f wordOk
  exact this

theorem plain_at (c : Int) : spec_plainByte.f c = some (decide (Good c)) := by
  unfold spec_plainByte.f
  by_cases hg : Good c
  · rw [decide_eq_true hg]; unfold Good at hg
    repeat' split
    all_goals first
      | rfl
      | (congr 1; exact beq_iff_eq.mpr (by omega))
      | (exfalso; omega)
  · rw [decide_eq_false hg]; unfold Good at hg
    repeat' split
    all_goals first
      | rfl
      | (congr 1; exact beq_eq_false_iff_ne.mpr (by omega))
      | (exfalso; omega)
theorem spec_word_l (s : ByteArray) (hs : s.size ≤ 4611686018427387904) : ∀ k i, i ≤ s.size → s.size - i < k → spec_validWord.l0 k s (i : Int) = some (goodsFrom s i) := by
  refine loop_up (fun k i => spec_validWord.l0 k s (i : Int) = some (goodsFrom s i)) ?_ ?_
  · intro k
    simp only [spec_validWord.l0]
    rw [if_neg (by omega), goods_end]
  · intro k i hi ih
    simp only [spec_validWord.l0]
    rw [if_pos (by omega), if_pos (by omega), plain_at, goods_at hi]
    simp only [Option.bind_some, wnext hi hs, ih]
    by_cases hg : Good (bt s i) <;> simp [hg]
theorem spec_word_at (s : ByteArray) (hs : s.size ≤ 4611686018427387904) (k : Nat) (hk : s.size < k) : spec_validWord.f k s = some (wordOk s) := by
  have := spec_word_l s hs k 0 (by omega) (by omega)
  unfold spec_validWord.f wordOk
  by_cases h : (s.size : Int) > 12
  · rw [if_pos h, show decide (s.size ≤ 12) = false from decide_eq_false (by omega), Bool.and_false]
  · rw [if_neg h, show decide (s.size ≤ 12) = true from decide_eq_true (by omega), Bool.and_true]; exact this

def vOk (a b : Int) (s : ByteArray) : Bool :=
  if a = 0 then (if b = 0 then s.toList == ([] : List UInt8) else false)
  else if a = 1 then (if -1000 ≤ b ∧ b ≤ 1000 then s.toList == ([] : List UInt8) else false)
  else if a = 2 then (if b = 0 then wordOk s else false) else false
theorem impl_valOk_at (a b : Int) (s : ByteArray) (hs : s.size ≤ 4611686018427387904) (k : Nat) (hk : s.size < k) : impl_ValOk.f k a b s = some (vOk a b s) := by
  unfold impl_ValOk.f vOk
  simp only [within_at, impl_word_at s hs k hk, Option.bind_some, decide_eq_true_eq]
  repeat' split
  all_goals rfl

theorem spec_val_at (a b : Int) (s : ByteArray) (hs : s.size ≤ 4611686018427387904) (k : Nat) (hk : s.size < k) : spec_validValue.f k a b s = some (vOk a b s) := by
  unfold spec_validValue.f vOk
  simp only [inRange_at, spec_word_at s hs k hk, Option.bind_some, decide_eq_true_eq]
  repeat' split
  all_goals rfl

def rOk (x : S41) : Bool :=
  decide (-1 ≤ x.f0 ∧ x.f0 ≤ 4) && (decide (-1 ≤ x.f1 ∧ x.f1 ≤ 4) && (decide (-1 ≤ x.f2 ∧ x.f2 ≤ 3) && (vOk x.f3.f0 x.f3.f1 x.f3.f2 && ((decide (x.f2 ≠ -1) || (x.f3.f0 == 0 && (x.f3.f1 == 0 && (x.f3.f2.toList == ([] : List UInt8))))) && (decide (0 ≤ x.f4 ∧ x.f4 ≤ 4) && decide (0 ≤ x.f5 ∧ x.f5 ≤ 60))))))
def rsOk (l : List S41) : Bool := l.all rOk && decide (l.length ≤ 12)

theorem validRule_at (x : S41) (hs : x.f3.f2.size ≤ 4611686018427387904) (k : Nat) (hk : x.f3.f2.size < k) : spec_validRule.f k x.f0 x.f1 x.f2 x.f3.f0 x.f3.f1 x.f3.f2 x.f4 x.f5 = some (rOk x) := by
  unfold spec_validRule.f rOk
  simp only [inRange_at, spec_val_at _ _ _ hs k hk, bsome, decide_eq_true_eq]
  by_cases h0 : -1 ≤ x.f0 ∧ x.f0 ≤ 4
  · by_cases h1 : -1 ≤ x.f1 ∧ x.f1 ≤ 4
    · by_cases h2 : -1 ≤ x.f2 ∧ x.f2 ≤ 3
      · cases h3 : vOk x.f3.f0 x.f3.f1 x.f3.f2
        · simp [h0, h1, h2]
        · cases h5 : (x.f3.f0 == 0 && (x.f3.f1 == 0 && (x.f3.f2.toList == ([] : List UInt8))))
          · by_cases h4 : x.f2 = -1
            · simp [h0, h1, h4]
            · by_cases h6 : 0 ≤ x.f4 ∧ x.f4 ≤ 4 <;> simp [h0, h1, h2, h4, h6]
          · by_cases h4 : x.f2 = -1
            · by_cases h6 : 0 ≤ x.f4 ∧ x.f4 ≤ 4 <;> simp [h0, h1, h4, h6]
            · by_cases h6 : 0 ≤ x.f4 ∧ x.f4 ≤ 4 <;> simp [h0, h1, h2, h4, h6]
      · simp only [h0, h1, h2, if_true, if_false, decide_true, decide_false, and_self, Bool.false_and, Bool.true_and]
    · simp only [h0, h1, if_true, if_false, decide_true, decide_false, and_self, Bool.false_and, Bool.true_and]
  · simp only [h0, if_false, decide_false, Bool.false_and]

theorem rd_rule' {l : List S41} {i : Nat} (h : i < l.length) : rd_T41 l (i : Int) = l[i] := getD_at z41 h
theorem impl_rules_at (l : List S41) (hl : l.length ≤ 4611686018427387904) (m : Nat) (hm : ∀ x ∈ l, x.f3.f2.size < m) (hm' : m ≤ 4611686018427387904) (k : Nat) (hk : l.length * 2 + m < k) : impl_RulesOk.f k l = some (rsOk l) := by
  have key := all_loop l (fun k i => impl_RulesOk.l0 k l l (l.length : Int) i) rOk (decide (l.length ≤ 12)) m 2 (by omega)
    (fun k _ => by simp only [impl_RulesOk.l0]; rw [if_neg (by omega)]; congr 1; exact decide_eq_decide.mpr (by omega))
    (fun k i h hk => by
      have hx := hm _ (List.getElem_mem h)
      simp only [impl_RulesOk.l0]
      rw [if_pos (by omega), if_pos (by omega), if_pos (by omega), rd_rule' h]
      generalize l[i] = x at *
      simp only [within_at, bsome, impl_RulesOk.j1, impl_valOk_at _ _ _ (show x.f3.f2.size ≤ 4611686018427387904 by omega) k (by omega), wnext h hl, decide_eq_true_eq]
      generalize impl_RulesOk.l0 k l l (l.length : Int) ((i + 1 : Nat) : Int) = R
      unfold rOk
      by_cases h0 : -1 ≤ x.f0 ∧ x.f0 ≤ 4
      · by_cases h1 : -1 ≤ x.f1 ∧ x.f1 ≤ 4
        · by_cases h2 : -1 ≤ x.f2 ∧ x.f2 ≤ 3
          · by_cases h6 : 0 ≤ x.f4 ∧ x.f4 ≤ 4
            · by_cases h7 : 0 ≤ x.f5 ∧ x.f5 ≤ 60
              · cases h3 : vOk x.f3.f0 x.f3.f1 x.f3.f2
                · by_cases h4 : x.f2 = -1
                  · simp [h0, h1, h4, h6, h7]
                  · simp [h0, h1, h2, h4, h6, h7]
                · by_cases h4 : x.f2 = -1
                  · cases h5 : (x.f3.f0 == 0 && (x.f3.f1 == 0 && (x.f3.f2.toList == ([] : List UInt8))))
                    · have h5' : (!(x.f3.f0 == 0) || (!(x.f3.f1 == 0) || (!(x.f3.f2.toList == ([] : List UInt8))))) = true := by rw [← Bool.not_and, ← Bool.not_and, h5]; rfl
                      simp only [h0, h1, h4, h6, h7, h5']; simp
                    · have h5' : (!(x.f3.f0 == 0) || (!(x.f3.f1 == 0) || (!(x.f3.f2.toList == ([] : List UInt8))))) = false := by rw [← Bool.not_and, ← Bool.not_and, h5]; rfl
                      simp only [h0, h1, h4, h6, h7, h5']; simp
                  · simp [h0, h1, h2, h4, h6, h7]
              · simp [h0, h1, h2, h6, h7]
            · simp [h0, h1, h2, h6]
          · simp [h0, h1, h2]
        · simp [h0, h1]
      · simp [h0]) k (by omega)
  unfold impl_RulesOk.f rsOk
  exact key

def wgt (x : S41) : Int := (if x.f0 = -1 then 0 else 1) + (if x.f1 = -1 then 0 else 1) + (if x.f2 = -1 then 0 else 10)
theorem impl_weight_at (x : S41) (k : Nat) (hk : 0 < k) : impl_weight.f k x.f0 x.f1 x.f2 x.f3.f0 x.f3.f1 x.f3.f2 x.f4 x.f5 = some (wgt x) := by
  obtain ⟨k, rfl⟩ : ∃ q, k = q + 1 := ⟨k - 1, by omega⟩
  unfold impl_weight.f wgt
  simp only [impl_weight.j0]
  by_cases h0 : x.f0 = -1 <;> by_cases h1 : x.f1 = -1 <;> by_cases h2 : x.f2 = -1 <;> simp only [h0, h1, h2, if_true, if_false] <;> first | rfl | (unfold wrap64; simp)
def rwt (x : S41) : Int := if rOk x = true then wgt x else -1
theorem rsOk_one (x : S41) : rsOk [x] = rOk x := by unfold rsOk; simp
theorem impl_rw_at (x : S41) (hs : x.f3.f2.size ≤ 2097152) (k : Nat) (hk : 2097200 < k) : impl_RuleWeight.f k x.f0 x.f1 x.f2 x.f3.f0 x.f3.f1 x.f3.f2 x.f4 x.f5 = some (rwt x) := by
  unfold impl_RuleWeight.f rwt
  have := impl_rules_at [x] (by simp) 2097153 (by intro y hy; rw [List.mem_singleton.1 hy]; omega) (by omega) k (by simp; omega)
  rw [this, bsome, rsOk_one, impl_weight_at x k (by omega), bsome]
  split <;> rfl

theorem spec_weight_at (x : S41) (k : Nat) (hk : 0 < k) : spec_weight.f k x.f0 x.f1 x.f2 x.f3.f0 x.f3.f1 x.f3.f2 x.f4 x.f5 = some (wgt x) := by
  obtain ⟨k, rfl⟩ : ∃ q, k = q + 1 := ⟨k - 1, by omega⟩
  unfold spec_weight.f wgt
  simp only [spec_weight.j0]
  by_cases h0 : x.f0 = -1 <;> by_cases h1 : x.f1 = -1 <;> by_cases h2 : x.f2 = -1 <;> simp only [h0, h1, h2, if_true, if_false] <;> first | rfl | (unfold wrap64; simp)
theorem spec_rw_at (x : S41) (hs : x.f3.f2.size ≤ 2097152) (k : Nat) (hk : 2097200 < k) : spec_RuleWeight.f k x.f0 x.f1 x.f2 x.f3.f0 x.f3.f1 x.f3.f2 x.f4 x.f5 = some (rwt x) := by
  unfold spec_RuleWeight.f rwt
  rw [validRule_at x (by omega) k (by omega), bsome, spec_weight_at x k (by omega), bsome]
  split <;> rfl

theorem szval_at (a b : Int) (s : ByteArray) (n : Int) (hn : 0 ≤ n ∧ n ≤ 1048576) (hs : s.size ≤ maxLen) : ∃ r, laws_szValue.f a b s n = some r ∧ (0 ≤ r → r = n - s.size) ∧ r ≤ n := by
  have hm : s.size ≤ 9223372036854775807 := hs
  unfold laws_szValue.f
  rw [w64 (by omega) (by omega)]
  by_cases h : n - (s.size : Int) < 0
  · rw [if_pos h]; exact ⟨_, rfl, by omega, by omega⟩
  · rw [if_neg h]; exact ⟨_, rfl, by omega, by omega⟩

def G34 (x : (Int) × (Int) × ByteArray) : Prop := (Lit.int .i64 x.1).wf = true ∧ ((Lit.int .i64 x.2.1).wf = true ∧ (x.2.2.size ≤ maxLen))
def G36 (x : (Int) × (Int) × (Int) × ((Int) × (Int) × ByteArray) × (Int) × Int) : Prop := (Lit.int .i64 x.1).wf = true ∧ ((Lit.int .i64 x.2.1).wf = true ∧ ((Lit.int .i64 x.2.2.1).wf = true ∧ (G34 x.2.2.2.1 ∧ ((Lit.int .i64 x.2.2.2.2.1).wf = true ∧ ((Lit.int .i64 x.2.2.2.2.2).wf = true)))))
/-- The pure statement: what is known of each argument is that it is a value of its type. -/
def PureFnExactRuleWeight : Prop := ∀ (a0 : (Int) × (Int) × (Int) × ((Int) × (Int) × ByteArray) × (Int) × Int), G36 a0 → ∃ k, laws_FnExactRuleWeight.f k a0.1 a0.2.1 a0.2.2.1 a0.2.2.2.1.1 a0.2.2.2.1.2.1 a0.2.2.2.1.2.2 a0.2.2.2.2.1 a0.2.2.2.2.2 = some true

theorem FnExactRuleWeight : PureFnExactRuleWeight := by
  intro a hg
  obtain ⟨k, hk⟩ : ∃ k : Nat, k = 3145800 := ⟨_, rfl⟩
  refine ⟨k, ?_⟩
  generalize hx : (⟨a.1, a.2.1, a.2.2.1, ⟨a.2.2.2.1.1, a.2.2.2.1.2.1, a.2.2.2.1.2.2⟩, a.2.2.2.2.1, a.2.2.2.2.2⟩ : S41) = x
  obtain ⟨a0, a1, a2, ⟨b0, b1, b2⟩, a4, a5⟩ := a
  have hsz : b2.size ≤ maxLen := hg.2.2.2.1.2.2
  subst hx
  obtain ⟨t, t1, t2, t3⟩ := szval_at b0 b1 b2 1048576 (by omega) hsz
  unfold laws_FnExactRuleWeight.f laws_szRule.f laws_toRule.f laws_toValue.f
  simp only [t1, bsome]
  by_cases ht : t < 0
  · rw [if_pos ht]; rfl
  rw [if_neg ht, bsome, if_neg ht]
  have h1 := spec_rw_at ⟨a0, a1, a2, ⟨b0, b1, b2⟩, a4, a5⟩ (by show b2.size ≤ 2097152; have := t2 (by omega); omega) k (by omega)
  have h2 := impl_rw_at ⟨a0, a1, a2, ⟨b0, b1, b2⟩, a4, a5⟩ (by show b2.size ≤ 2097152; have := t2 (by omega); omega) k (by omega)
  simp only at h1 h2
  rw [h1, bsome, h2, bsome, if_pos rfl]

end Go.Proofs.Ytnihohgbhnhbjaa.Pure
