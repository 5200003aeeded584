/- The pure statement of the law 'FnRuleWeight': for every list of bytes the law's function returns true (no condition but that of the form: the list's length). -/
import Derived.Test.YtheifobeaemegaaQFnRuleWeightx7
namespace Go.Proofs.Ytheifobeaemegaa.Pure
open Go Go.RowKit Go.Proofs.Ytheifobeaemegaa.PFnRuleWeight Go.Proofs.YtheifobeaemegaaW.PrintWords Go.Proofs.YtheifobeaemegaaW.PrintLast
set_option linter.unusedVariables false
set_option linter.unusedSimpArgs false

theorem w64 {n : Int} (h1 : -9223372036854775808 ≤ n) (h2 : n ≤ 9223372036854775807) : wrap64 n = n := by
  unfold wrap64; omega
theorem wnext {i n : Nat} (h : i < n) (hn : n ≤ 4611686018427387904) : wrap64 ((i : Int) + 1) = ((i + 1 : Nat) : Int) := by
  rw [w64 (by omega) (by omega)]; omega
/-- A loop that goes up to n, by rounds. -/
theorem loop_up {n : Nat} (Q : Nat → Nat → Prop) (last : ∀ k, Q (k + 1) n) (step : ∀ k i, i < n → Q k (i + 1) → Q (k + 1) i) : ∀ k i, i ≤ n → n - i < k → Q k i := by
  intro k
  induction k with
  | zero => intro i _ h; omega
  | succ k ih =>
    intro i hi hk
    by_cases h : i = n
    · subst h; exact last k
    · exact step k i (by omega) (ih (i + 1) (by omega) (by omega))
theorem drop_at {α : Type} {l : List α} {i : Nat} (d : α) (h : i < l.length) : l.drop i = l.getD ((i : Int)).toNat d :: l.drop (i + 1) := by
  rw [List.drop_eq_getElem_cons h, List.getD_eq_getElem?_getD]
  simp [h]
theorem range_at {i n : Nat} (h : i < n) : List.range' i (n - i) = i :: List.range' (i + 1) (n - (i + 1)) := by
  rw [show n - i = (n - (i + 1)) + 1 by omega, List.range'_succ]
theorem range_end (n : Nat) : List.range' n (n - n) = [] := by simp
theorem bsome {α β : Type} (a : α) (f : α → Option β) : (some a).bind f = f a := by
  cases h : f a <;> simp [h]

theorem getD_at {α : Type} {l : List α} {i : Nat} (d : α) (h : i < l.length) : l.getD ((i : Int)).toNat d = l[i] := by
  simp [List.getD_eq_getElem?_getD, h]
theorem drop_cons {α : Type} {l : List α} {i : Nat} (h : i < l.length) : l.drop i = l[i] :: l.drop (i + 1) := List.drop_eq_getElem_cons h
/-- A loop that goes up to n, s rounds a turn, with m rounds to spare. -/
theorem loop_s {n m s : Nat} (hs : 0 < s) (Q : Nat → Nat → Prop) (last : ∀ k, m ≤ k → Q (k + 1) n) (step : ∀ k i, i < n → m ≤ k → Q k (i + 1) → Q (k + s) i) : ∀ d i k, n - i = d → i ≤ n → d * s + m < k → Q k i := by
  intro d
  induction d with
  | zero =>
    intro i k hd hi hk
    obtain rfl : i = n := by omega
    obtain ⟨k, rfl⟩ : ∃ q, k = q + 1 := ⟨k - 1, by omega⟩
    exact last k (by omega)
  | succ d ih =>
    intro i k hd hi hk
    rw [Nat.add_mul, Nat.one_mul] at hk
    obtain ⟨k, rfl⟩ : ∃ q, k = q + s := ⟨k - s, by omega⟩
    exact step k i (by omega) (by omega) (ih (i + 1) k (by omega) (by omega) (by omega))
/-- A loop that asks each element. -/
theorem all_loop {α : Type} (xs : List α) (F : Nat → Int → Option Bool) (p : α → Bool) (fin : Bool) (m s : Nat) (hs : 0 < s)
    (hend : ∀ k, m ≤ k → F (k + 1) (xs.length : Int) = some fin)
    (hstep : ∀ k i (h : i < xs.length), m ≤ k → F (k + s) (i : Int) = if p xs[i] = true then F k ((i + 1 : Nat) : Int) else some false) :
    ∀ k, xs.length * s + m < k → F k 0 = some (xs.all p && fin) := by
  intro k hk
  have := loop_s (n := xs.length) (m := m) (s := s) hs (fun k i => F k (i : Int) = some ((xs.drop i).all p && fin)) (fun k hm => by show F (k + 1) (xs.length : Int) = _; rw [hend k hm, List.drop_length]; rfl)
    (fun k i h hm ih => by
      show F (k + s) (i : Int) = _
      rw [hstep k i h hm, drop_cons h, List.all_cons]
      have ih' : F k ((i + 1 : Nat) : Int) = some ((xs.drop (i + 1)).all p && fin) := ih
      rw [ih']
      by_cases hp : p xs[i] = true <;> simp [hp]) xs.length 0 k (by omega) (by omega) hk
  simpa using this
/-- A loop that fills a new list with what a function makes of each element. -/
theorem map_loop {α β : Type} (xs : List α) (F : Nat → List β → Int → Option (List β)) (c : α → β) (z : β) (m s : Nat) (hs : 0 < s)
    (hend : ∀ k acc, m ≤ k → F (k + 1) acc (xs.length : Int) = some acc)
    (hstep : ∀ k (acc : List β) i (h : i < xs.length), m ≤ k → i < acc.length → F (k + s) acc (i : Int) = F k (acc.set i (c xs[i])) ((i + 1 : Nat) : Int)) :
    ∀ k, xs.length * s + m < k → F k (List.replicate xs.length z) 0 = some (xs.map c) := by
  intro k hk
  have := loop_s (n := xs.length) (m := m) (s := s) hs (fun k i => ∀ p : List β, p.length = i → F k (p ++ List.replicate (xs.length - i) z) (i : Int) = some (p ++ (xs.drop i).map c))
    (fun k hm p hp => by rw [hend k _ hm]; simp)
    (fun k i h hm ih p hp => by
      rw [hstep k _ i h hm (by simp; omega), show xs.length - i = (xs.length - (i + 1)) + 1 by omega, List.replicate_succ]
      have e : (p ++ z :: List.replicate (xs.length - (i + 1)) z).set i (c xs[i]) = (p ++ [c xs[i]]) ++ List.replicate (xs.length - (i + 1)) z := by
        subst hp; simp
      rw [e, ih (p ++ [c xs[i]]) (by simp [hp]), drop_cons h, List.map_cons, List.append_assoc]; rfl) xs.length 0 k (by omega) (by omega) hk [] rfl
  simpa using this
/-- A loop that takes the sizes of the elements off what is left. -/
theorem sz_loop {α : Type} (xs : List α) (F : Nat → Int → Int → Option Int) (sz : α → Nat) (m s : Nat) (hs : 0 < s)
    (hend : ∀ (k : Nat) (left : Int), m ≤ k → F (k + 1) left (xs.length : Int) = some left)
    (hstep : ∀ (k : Nat) (left : Int) (i : Nat) (h : i < xs.length), m ≤ k → 0 ≤ left → left ≤ 1048576 → ∃ t, t ≤ left ∧ (0 ≤ t → t = left - sz xs[i]) ∧ F (k + s) left (i : Int) = if t < 0 then some (-1) else F k t ((i + 1 : Nat) : Int)) :
    ∀ (k : Nat) (left : Int), xs.length * s + m < k → 0 ≤ left → left ≤ 1048576 → ∃ r, F k left 0 = some r ∧ r ≤ left ∧ (0 ≤ r → r = left - (xs.map sz).sum) := by
  intro k left hk h0 h1
  have := loop_s (n := xs.length) (m := m) (s := s) hs (fun k i => ∀ left : Int, 0 ≤ left → left ≤ 1048576 → ∃ r, F k left (i : Int) = some r ∧ r ≤ left ∧ (0 ≤ r → r = left - ((xs.drop i).map sz).sum))
    (fun k hm left h0 h1 => ⟨left, by rw [hend k _ hm], by omega, by simp⟩)
    (fun k i h hm ih left h0 h1 => by
      obtain ⟨t, t1, t2, t3⟩ := hstep k left i h hm h0 h1
      by_cases ht : t < 0
      · exact ⟨-1, by rw [t3, if_pos ht], by omega, by omega⟩
      · obtain ⟨r, r1, r2, r3⟩ := ih t (by omega) (by omega)
        refine ⟨r, by rw [t3, if_neg ht, r1], by omega, fun hr => ?_⟩
        rw [r3 hr, t2 (by omega), drop_cons h, List.map_cons, List.sum_cons]; omega) xs.length 0 k (by omega) (by omega) hk left h0 h1
  simpa using this
theorem sum_mem {α : Type} {xs : List α} {sz : α → Nat} {x : α} (h : x ∈ xs) : sz x ≤ (xs.map sz).sum := by
  induction xs with
  | nil => cases h
  | cons y ys ih =>
    rw [List.map_cons, List.sum_cons]
    rcases List.mem_cons.1 h with rfl | h
    · omega
    · have := ih h; omega

theorem within_at (a b c : Int) : impl_within.f a b c = some (decide (b ≤ a ∧ a ≤ c)) := by
  unfold impl_within.f
  by_cases h : a ≥ b
  · rw [if_pos h]; congr 1; exact decide_eq_decide.mpr ⟨fun x => ⟨h, x⟩, fun x => x.2⟩
  · rw [if_neg h]; congr 1; exact (decide_eq_false fun x => h x.1).symm

theorem inRange_at (a b c : Int) : spec_inRange.f a b c = some (decide (b ≤ a ∧ a ≤ c)) := by
  unfold spec_inRange.f
  by_cases h : a ≥ b
  · rw [if_pos h]; congr 1; exact decide_eq_decide.mpr ⟨fun x => ⟨h, x⟩, fun x => x.2⟩
  · rw [if_neg h]; congr 1; exact (decide_eq_false fun x => h x.1).symm

def Good (c : Int) : Prop := (97 ≤ c ∧ c ≤ 122) ∨ (48 ≤ c ∧ c ≤ 57) ∨ c = 32
instance (c : Int) : Decidable (Good c) := by unfold Good; exact inferInstance
def goodsFrom (s : ByteArray) (i : Nat) : Bool := (List.range' i (s.size - i)).all fun j => decide (Good (bt s j))
theorem goods_at {s : ByteArray} {i : Nat} (h : i < s.size) : goodsFrom s i = (decide (Good (bt s i)) && goodsFrom s (i + 1)) := by
  unfold goodsFrom; rw [range_at h]; rfl
theorem goods_end (s : ByteArray) : goodsFrom s s.size = true := by
  unfold goodsFrom; rw [range_end]; rfl
def wordOk (s : ByteArray) : Bool := goodsFrom s 0 && decide (s.size ≤ 12)
theorem impl_word_l (s : ByteArray) (hs : s.size ≤ 4611686018427387904) : ∀ k i, i ≤ s.size → s.size - i < k → impl_word.l0 k s (i : Int) = some (goodsFrom s i && decide (s.size ≤ 12)) := by
  refine loop_up (fun k i => impl_word.l0 k s (i : Int) = some (goodsFrom s i && decide (s.size ≤ 12))) ?_ ?_
  · intro k
    simp only [impl_word.l0]
    rw [if_neg (by omega), goods_end, Bool.true_and]
    congr 1; exact decide_eq_decide.mpr (by omega)
  · intro k i hi ih
    have e : impl_word.l0 (k + 1) s (i : Int) = if Good (bt s i) then impl_word.l0 k s (wrap64 ((i : Int) + 1)) else some false := by
      simp only [impl_word.l0]
      rw [if_pos (by omega), if_pos (by omega)]
      by_cases hg : Good (bt s i)
      · rw [if_pos hg]; unfold Good at hg
        repeat' split
        all_goals first
          | rfl
          | (exfalso; omega)
      · rw [if_neg hg]; unfold Good at hg
        repeat' split
        all_goals first
          | rfl
          | (exfalso; omega)
    rw [e, wnext hi hs, ih, goods_at hi]
    by_cases hg : Good (bt s i) <;> simp [hg]
theorem impl_word_at (s : ByteArray) (hs : s.size ≤ 4611686018427387904) (k : Nat) (hk : s.size < k) : impl_word.f k s = some (wordOk s) := by
  have := impl_word_l s hs k 0 (by omega) (by omega)
  unfold impl_word.f wordOk
  exact this

theorem plain_at (c : Int) : spec_plainByte.f c = some (decide (Good c)) := by
  unfold spec_plainByte.f
  by_cases hg : Good c
  · rw [decide_eq_true hg]; unfold Good at hg
    repeat' split
    all_goals first
      | rfl
      | (congr 1; exact beq_iff_eq.mpr (by omega))
      | (exfalso; omega)
  · rw [decide_eq_false hg]; unfold Good at hg
    repeat' split
    all_goals first
      | rfl
      | (congr 1; exact beq_eq_false_iff_ne.mpr (by omega))
      | (exfalso; omega)
theorem spec_word_l (s : ByteArray) (hs : s.size ≤ 4611686018427387904) : ∀ k i, i ≤ s.size → s.size - i < k → spec_validWord.l0 k s (i : Int) = some (goodsFrom s i) := by
  refine loop_up (fun k i => spec_validWord.l0 k s (i : Int) = some (goodsFrom s i)) ?_ ?_
  · intro k
    simp only [spec_validWord.l0]
    rw [if_neg (by omega), goods_end]
  · intro k i hi ih
    simp only [spec_validWord.l0]
    rw [if_pos (by omega), if_pos (by omega), plain_at, goods_at hi]
    simp only [Option.bind_some, wnext hi hs, ih]
    by_cases hg : Good (bt s i) <;> simp [hg]
theorem spec_word_at (s : ByteArray) (hs : s.size ≤ 4611686018427387904) (k : Nat) (hk : s.size < k) : spec_validWord.f k s = some (wordOk s) := by
  have := spec_word_l s hs k 0 (by omega) (by omega)
  unfold spec_validWord.f wordOk
  by_cases h : (s.size : Int) > 12
  · rw [if_pos h, show decide (s.size ≤ 12) = false from decide_eq_false (by omega), Bool.and_false]
  · rw [if_neg h, show decide (s.size ≤ 12) = true from decide_eq_true (by omega), Bool.and_true]; exact this

def vOk (a b : Int) (s : ByteArray) : Bool :=
  if a = 0 then (if b = 0 then s.toList == ([] : List UInt8) else false)
  else if a = 1 then (if -1000 ≤ b ∧ b ≤ 1000 then s.toList == ([] : List UInt8) else false)
  else if a = 2 then (if b = 0 then wordOk s else false) else false
theorem impl_valOk_at (a b : Int) (s : ByteArray) (hs : s.size ≤ 4611686018427387904) (k : Nat) (hk : s.size < k) : impl_ValOk.f k a b s = some (vOk a b s) := by
  unfold impl_ValOk.f vOk
  simp only [within_at, impl_word_at s hs k hk, Option.bind_some, decide_eq_true_eq]
  repeat' split
  all_goals rfl

theorem spec_val_at (a b : Int) (s : ByteArray) (hs : s.size ≤ 4611686018427387904) (k : Nat) (hk : s.size < k) : spec_validValue.f k a b s = some (vOk a b s) := by
  unfold spec_validValue.f vOk
  simp only [inRange_at, spec_word_at s hs k hk, Option.bind_some, decide_eq_true_eq]
  repeat' split
  all_goals rfl

def rOk (x : S30) : Bool :=
  decide (-1 ≤ x.f0 ∧ x.f0 ≤ 4) && (decide (-1 ≤ x.f1 ∧ x.f1 ≤ 4) && (decide (-1 ≤ x.f2 ∧ x.f2 ≤ 3) && (vOk x.f3.f0 x.f3.f1 x.f3.f2 && ((decide (x.f2 ≠ -1) || (x.f3.f0 == 0 && (x.f3.f1 == 0 && (x.f3.f2.toList == ([] : List UInt8))))) && (decide (0 ≤ x.f4 ∧ x.f4 ≤ 4) && decide (0 ≤ x.f5 ∧ x.f5 ≤ 60))))))
def rsOk (l : List S30) : Bool := l.all rOk && decide (l.length ≤ 12)

theorem validRule_at (x : S30) (hs : x.f3.f2.size ≤ 4611686018427387904) (k : Nat) (hk : x.f3.f2.size < k) : spec_validRule.f k x.f0 x.f1 x.f2 x.f3.f0 x.f3.f1 x.f3.f2 x.f4 x.f5 = some (rOk x) := by
  unfold spec_validRule.f rOk
  simp only [inRange_at, spec_val_at _ _ _ hs k hk, bsome, decide_eq_true_eq]
  by_cases h0 : -1 ≤ x.f0 ∧ x.f0 ≤ 4
  · by_cases h1 : -1 ≤ x.f1 ∧ x.f1 ≤ 4
    · by_cases h2 : -1 ≤ x.f2 ∧ x.f2 ≤ 3
      · cases h3 : vOk x.f3.f0 x.f3.f1 x.f3.f2
        · simp [h0, h1, h2]
        · cases h5 : (x.f3.f0 == 0 && (x.f3.f1 == 0 && (x.f3.f2.toList == ([] : List UInt8))))
          · by_cases h4 : x.f2 = -1
            · simp [h0, h1, h4]
            · by_cases h6 : 0 ≤ x.f4 ∧ x.f4 ≤ 4 <;> simp [h0, h1, h2, h4, h6]
          · by_cases h4 : x.f2 = -1
            · by_cases h6 : 0 ≤ x.f4 ∧ x.f4 ≤ 4 <;> simp [h0, h1, h4, h6]
            · by_cases h6 : 0 ≤ x.f4 ∧ x.f4 ≤ 4 <;> simp [h0, h1, h2, h4, h6]
      · simp only [h0, h1, h2, if_true, if_false, decide_true, decide_false, and_self, Bool.false_and, Bool.true_and]
    · simp only [h0, h1, if_true, if_false, decide_true, decide_false, and_self, Bool.false_and, Bool.true_and]
  · simp only [h0, if_false, decide_false, Bool.false_and]

theorem rd_rule' {l : List S30} {i : Nat} (h : i < l.length) : rd_T30 l (i : Int) = l[i] := getD_at z30 h
theorem impl_rules_at (l : List S30) (hl : l.length ≤ 4611686018427387904) (m : Nat) (hm : ∀ x ∈ l, x.f3.f2.size < m) (hm' : m ≤ 4611686018427387904) (k : Nat) (hk : l.length * 2 + m < k) : impl_RulesOk.f k l = some (rsOk l) := by
  have key := all_loop l (fun k i => impl_RulesOk.l0 k l l (l.length : Int) i) rOk (decide (l.length ≤ 12)) m 2 (by omega)
    (fun k _ => by simp only [impl_RulesOk.l0]; rw [if_neg (by omega)]; congr 1; exact decide_eq_decide.mpr (by omega))
    (fun k i h hk => by
      have hx := hm _ (List.getElem_mem h)
      simp only [impl_RulesOk.l0]
      rw [if_pos (by omega), if_pos (by omega), if_pos (by omega), rd_rule' h]
      generalize l[i] = x at *
      simp only [within_at, bsome, impl_RulesOk.j1, impl_valOk_at _ _ _ (show x.f3.f2.size ≤ 4611686018427387904 by omega) k (by omega), wnext h hl, decide_eq_true_eq]
      generalize impl_RulesOk.l0 k l l (l.length : Int) ((i + 1 : Nat) : Int) = R
      unfold rOk
      by_cases h0 : -1 ≤ x.f0 ∧ x.f0 ≤ 4
      · by_cases h1 : -1 ≤ x.f1 ∧ x.f1 ≤ 4
        · by_cases h2 : -1 ≤ x.f2 ∧ x.f2 ≤ 3
          · by_cases h6 : 0 ≤ x.f4 ∧ x.f4 ≤ 4
            · by_cases h7 : 0 ≤ x.f5 ∧ x.f5 ≤ 60
              · cases h3 : vOk x.f3.f0 x.f3.f1 x.f3.f2
                · by_cases h4 : x.f2 = -1
                  · simp [h0, h1, h4, h6, h7]
                  · simp [h0, h1, h2, h4, h6, h7]
                · by_cases h4 : x.f2 = -1
                  · cases h5 : (x.f3.f0 == 0 && (x.f3.f1 == 0 && (x.f3.f2.toList == ([] : List UInt8))))
                    · have h5' : (!(x.f3.f0 == 0) || (!(x.f3.f1 == 0) || (!(x.f3.f2.toList == ([] : List UInt8))))) = true := by rw [← Bool.not_and, ← Bool.not_and, h5]; rfl
                      simp only [h0, h1, h4, h6, h7, h5']; simp
                    · have h5' : (!(x.f3.f0 == 0) || (!(x.f3.f1 == 0) || (!(x.f3.f2.toList == ([] : List UInt8))))) = false := by rw [← Bool.not_and, ← Bool.not_and, h5]; rfl
                      simp only [h0, h1, h4, h6, h7, h5']; simp
                  · simp [h0, h1, h2, h4, h6, h7]
              · simp [h0, h1, h2, h6, h7]
            · simp [h0, h1, h2, h6]
          · simp [h0, h1, h2]
        · simp [h0, h1]
      · simp [h0]) k (by omega)
  unfold impl_RulesOk.f rsOk
  exact key

def wgt (x : S30) : Int := (if x.f0 = -1 then 0 else 1) + (if x.f1 = -1 then 0 else 1) + (if x.f2 = -1 then 0 else 10)
theorem impl_weight_at (x : S30) (k : Nat) (hk : 0 < k) : impl_weight.f k x.f0 x.f1 x.f2 x.f3.f0 x.f3.f1 x.f3.f2 x.f4 x.f5 = some (wgt x) := by
  obtain ⟨k, rfl⟩ : ∃ q, k = q + 1 := ⟨k - 1, by omega⟩
  unfold impl_weight.f wgt
  simp only [impl_weight.j0]
  by_cases h0 : x.f0 = -1 <;> by_cases h1 : x.f1 = -1 <;> by_cases h2 : x.f2 = -1 <;> simp only [h0, h1, h2, if_true, if_false] <;> first | rfl | (unfold wrap64; simp)
def rwt (x : S30) : Int := if rOk x = true then wgt x else -1
theorem rsOk_one (x : S30) : rsOk [x] = rOk x := by unfold rsOk; simp
theorem impl_rw_at (x : S30) (hs : x.f3.f2.size ≤ 2097152) (k : Nat) (hk : 2097200 < k) : impl_RuleWeight.f k x.f0 x.f1 x.f2 x.f3.f0 x.f3.f1 x.f3.f2 x.f4 x.f5 = some (rwt x) := by
  unfold impl_RuleWeight.f rwt
  have := impl_rules_at [x] (by simp) 2097153 (by intro y hy; rw [List.mem_singleton.1 hy]; omega) (by omega) k (by simp; omega)
  rw [this, bsome, rsOk_one, impl_weight_at x k (by omega), bsome]
  split <;> rfl

theorem spec_weight_at (x : S30) (k : Nat) (hk : 0 < k) : spec_weight.f k x.f0 x.f1 x.f2 x.f3.f0 x.f3.f1 x.f3.f2 x.f4 x.f5 = some (wgt x) := by
  obtain ⟨k, rfl⟩ : ∃ q, k = q + 1 := ⟨k - 1, by omega⟩
  unfold spec_weight.f wgt
  simp only [spec_weight.j0]
  by_cases h0 : x.f0 = -1 <;> by_cases h1 : x.f1 = -1 <;> by_cases h2 : x.f2 = -1 <;> simp only [h0, h1, h2, if_true, if_false] <;> first | rfl | (unfold wrap64; simp)
theorem spec_rw_at (x : S30) (hs : x.f3.f2.size ≤ 2097152) (k : Nat) (hk : 2097200 < k) : spec_RuleWeight.f k x.f0 x.f1 x.f2 x.f3.f0 x.f3.f1 x.f3.f2 x.f4 x.f5 = some (rwt x) := by
  unfold spec_RuleWeight.f rwt
  rw [validRule_at x (by omega) k (by omega), bsome, spec_weight_at x k (by omega), bsome]
  split <;> rfl


/-- A source of draws: its bytes are bytes, and no more than 8000 of them are taken. -/
def Src (l : List Int) (a f : Int) : Prop := (∀ x ∈ l, 0 ≤ x ∧ x ≤ 255) ∧ 0 ≤ a ∧ 0 ≤ f ∧ a + 2 * f ≤ 8000

theorem rd_in {l : List Int} {i : Int} (h0 : 0 ≤ i) (h1 : i < (l.length : Int)) : rd l i ∈ l := by
  have h : i.toNat < l.length := by omega
  unfold rd
  rw [List.getD_eq_getElem?_getD, List.getElem?_eq_getElem h]
  exact List.getElem_mem h

theorem pick_tells {l : List Int} {a f : Int} (n : Int) (h : Src l a f) (k : Nat) (hk : 0 < k) :
    ∃ v a' f', spec_source_pick.f k l a f n = some (v, a', f') ∧ 0 ≤ v ∧ (v < n ∨ v = 0) ∧ Src l a' f' := by
  obtain ⟨hb, ha, hf, haf⟩ := h
  obtain ⟨k, rfl⟩ : ∃ m, k = m + 1 := ⟨k - 1, by omega⟩
  have stop : ∃ v a' f', spec_source_pick.j0 (k + 1) n true l a f = some (v, a', f') ∧ 0 ≤ v ∧ (v < n ∨ v = 0) ∧ Src l a' f' :=
    ⟨0, a, f, by simp [spec_source_pick.j0], by omega, Or.inr rfl, hb, ha, hf, haf⟩
  unfold spec_source_pick.f
  by_cases h1 : n ≤ 1
  · rw [if_pos h1]; exact stop
  rw [if_neg h1]
  by_cases h2 : f ≤ 0
  · rw [if_pos h2]; exact stop
  rw [if_neg h2]
  by_cases h3 : (l.length : Int) = 0
  · rw [show ((l.length : Int) == 0) = true from beq_iff_eq.mpr h3]; exact stop
  rw [show ((l.length : Int) == 0) = false from beq_eq_false_iff_ne.mpr h3]
  have hl : 0 < (l.length : Int) := by omega
  have m0 : 0 ≤ Int.tmod a (l.length : Int) := Int.tmod_nonneg _ ha
  have m1 : Int.tmod a (l.length : Int) < (l.length : Int) := Int.tmod_lt_of_pos _ hl
  have q0 : 0 ≤ Int.tdiv a (l.length : Int) := Int.tdiv_nonneg ha (by omega)
  have q1 : Int.tdiv a (l.length : Int) ≤ 8000 := by
    rw [Int.tdiv_eq_ediv_of_nonneg ha]
    have := Int.ediv_le_self (l.length : Int) ha
    omega
  have v0 := hb _ (rd_in m0 m1)
  simp only [spec_source_pick.j0]
  rw [if_neg (by simp), if_neg h3, if_pos m0, if_pos m1]
  generalize Int.tdiv a (l.length : Int) = q at *
  generalize rd l (Int.tmod a (l.length : Int)) = x at *
  rw [w64 (n := a + 1) (by omega) (by omega), w64 (n := f - 1) (by omega) (by omega), w64 (n := x) (by omega) (by omega),
    w64 (n := q) (by omega) (by omega), w64 (n := q * 31) (by omega) (by omega), w64 (n := x + q * 31) (by omega) (by omega)]
  by_cases h4 : n > 256
  · have m0' : 0 ≤ Int.tmod (a + 1) (l.length : Int) := Int.tmod_nonneg _ (by omega)
    have m1' : Int.tmod (a + 1) (l.length : Int) < (l.length : Int) := Int.tmod_lt_of_pos _ hl
    have v1 := hb _ (rd_in m0' m1')
    generalize rd l (Int.tmod (a + 1) (l.length : Int)) = y at *
    rw [if_pos h4, if_pos m0', if_pos m1', if_neg (by omega), w64 (n := y) (by omega) (by omega),
      w64 (n := (x + q * 31) * 256) (by omega) (by omega), w64 (n := (x + q * 31) * 256 + y) (by omega) (by omega),
      w64 (n := a + 1 + 1) (by omega) (by omega)]
    exact ⟨_, _, _, rfl, Int.tmod_nonneg _ (by omega), Or.inl (Int.tmod_lt_of_pos _ (by omega)), hb, by omega, by omega, by omega⟩
  · rw [if_neg h4, if_neg (by omega)]
    exact ⟨_, _, _, rfl, Int.tmod_nonneg _ (by omega), Or.inl (Int.tmod_lt_of_pos _ (by omega)), hb, by omega, by omega, by omega⟩

theorem src_new {l : List Int} (h : ∀ x ∈ l, (Lit.int .u8 x).wf = true) : Src l 0 4000 := by
  refine ⟨fun x hx => ?_, by omega, by omega, by omega⟩
  have := h x hx
  simp only [Lit.wf, IntKind.min, IntKind.max, IntKind.signed, IntKind.bits, Bool.and_eq_true, decide_eq_true_eq] at this
  simp at this
  omega

theorem one_tells {l : List Int} {a f : Int} (l1 : List Int) (hl : l1 ≠ []) (h : Src l a f) (k : Nat) (hk : 0 < k) :
    ∃ v a' f', spec_source_one.f k l a f l1 = some (v, a', f') ∧ v ∈ l1 ∧ Src l a' f' := by
  obtain ⟨v, a', f', he, h0, h1, hs⟩ := pick_tells (l1.length : Int) h k hk
  have hp : 0 < (l1.length : Int) := by
    have := List.length_pos_iff.mpr hl
    omega
  have hv : v < (l1.length : Int) := by omega
  refine ⟨rd l1 v, a', f', ?_, rd_in h0 hv, hs⟩
  unfold spec_source_one.f
  rw [he]; simp only [Option.bind_some]
  rw [if_pos h0, if_pos hv]

theorem rarely_tells {l : List Int} {a f : Int} (h : Src l a f) (k : Nat) (hk : 0 < k) : ∃ v a' f', spec_source_rarely.f k l a f = some (v, a', f') ∧ Src l a' f' := by
  obtain ⟨v, a', f', he, -, -, hs⟩ := pick_tells 40 h k hk
  refine ⟨(v == 1), a', f', ?_, hs⟩
  unfold spec_source_rarely.f
  rw [he, bsome]

theorem rdOf_in {α : Type} {d : α} {l : List α} {i : Int} (h0 : 0 ≤ i) (h1 : i < (l.length : Int)) : rdOf d l i ∈ l := by
  have h : i.toNat < l.length := by omega
  unfold rdOf
  rw [List.getD_eq_getElem?_getD, List.getElem?_eq_getElem h]
  exact List.getElem_mem h
theorem size_append (a b : ByteArray) : (a ++ b).size = a.size + b.size := ByteArray.size_append
theorem text_l {l : List Int} : ∀ (n k : Nat) (acc : ByteArray) (a f : Int), Src l a f → n + 1 < k → acc.size + 4 * n ≤ 1000 → ∃ r a' f', spec_source_text.l0 k acc (n : Int) l a f = some (r, a', f') ∧ r.size ≤ acc.size + 4 * n + 1 ∧ Src l a' f' := by
  intro n
  induction n with
  | zero =>
    intro k acc a f h hk hn
    obtain ⟨k, rfl⟩ : ∃ m, k = m + 1 := ⟨k - 1, by omega⟩
    simp only [spec_source_text.l0]
    rw [if_neg (by omega)]
    obtain ⟨v, a1, f1, e1, s1⟩ := rarely_tells h k (by omega)
    rw [e1, bsome]
    cases v with
    | true =>
      rw [if_pos rfl, if_pos (by omega)]
      exact ⟨_, _, _, rfl, by rw [size_append]; exact Nat.le_refl _, s1⟩
    | false =>
      rw [if_neg (by simp)]
      exact ⟨_, _, _, rfl, by omega, s1⟩
  | succ n ih =>
    intro k acc a f h hk hn
    obtain ⟨k, rfl⟩ : ∃ m, k = m + 1 := ⟨k - 1, by omega⟩
    simp only [spec_source_text.l0]
    rw [if_pos (by omega), bsome]
    obtain ⟨u1, a1, f1, e1, p1, q1, s1⟩ := pick_tells 6 h k (by omega)
    rw [e1, bsome]
    generalize hy : ([(⟨#[97]⟩ : ByteArray), (⟨#[98]⟩ : ByteArray), (⟨#[122, 57]⟩ : ByteArray), (⟨#[32]⟩ : ByteArray), (⟨#[48]⟩ : ByteArray), (⟨#[108, 111, 110, 103]⟩ : ByteArray)] : List ByteArray) = y
    have hyl : y.length = 6 := by subst hy; rfl
    have hys : ∀ b ∈ y, b.size ≤ 4 := by
      subst hy
      intro b hb
      simp only [List.mem_cons, List.not_mem_nil, or_false] at hb
      rcases hb with rfl | rfl | rfl | rfl | rfl | rfl <;> decide
    have hu : u1 < (y.length : Int) := by omega
    have hb := hys _ (rdOf_in (d := ByteArray.empty) p1 hu)
    rw [if_pos p1, if_pos hu]
    generalize rdOf ByteArray.empty y u1 = b at *
    rw [if_pos (by omega), w64 (by omega) (by omega), show ((n + 1 : Nat) : Int) - 1 = (n : Int) by omega]
    obtain ⟨r, a', f', er, hr, sr⟩ := ih k (acc ++ b) a1 f1 s1 (by omega) (by rw [size_append]; omega)
    exact ⟨r, a', f', er, by rw [size_append] at hr; omega, sr⟩
theorem text_tells {l : List Int} {a f : Int} (h : Src l a f) (k : Nat) (hk : 10 < k) : ∃ r a' f', spec_source_text.f k l a f = some (r, a', f') ∧ r.size ≤ 20 ∧ Src l a' f' := by
  unfold spec_source_text.f
  obtain ⟨v1, a1, f1, e1, p1, q1, s1⟩ := pick_tells 4 h k (by omega)
  rw [e1, bsome]
  obtain ⟨r, a3, f3, e3, h3, s3⟩ := text_l v1.toNat k (⟨#[]⟩ : ByteArray) a1 f1 s1 (by omega) (by show 0 + 4 * v1.toNat ≤ 1000; omega)
  rw [show ((v1.toNat : Nat) : Int) = v1 by omega] at e3
  refine ⟨r, a3, f3, e3, ?_, s3⟩
  have h0 : (⟨#[]⟩ : ByteArray).size = 0 := rfl
  omega
theorem value_tells {l : List Int} {a f : Int} (h : Src l a f) (k : Nat) (hk : 10 < k) : ∃ x y z a' f', spec_source_value.f k l a f = some (x, y, z, a', f') ∧ z.size ≤ 20 ∧ (-1001 ≤ y ∧ y ≤ 1001) ∧ (0 ≤ x ∧ x ≤ 2) ∧ Src l a' f' := by
  unfold spec_source_value.f
  obtain ⟨v1, a1, f1, e1, p1, q1, s1⟩ := pick_tells 6 h k (by omega)
  rw [e1, bsome]
  have h0 : (⟨#[]⟩ : ByteArray).size ≤ 20 := by decide
  by_cases c0 : v1 = 0
  · rw [if_pos c0]; exact ⟨_, _, _, _, _, rfl, h0, by omega, by omega, s1⟩
  rw [if_neg c0]
  by_cases c1 : v1 = 1
  · rw [if_pos c1]
    obtain ⟨r, a2, f2, e2, h2, s2⟩ := text_tells s1 k hk
    rw [e2, bsome]; exact ⟨_, _, _, _, _, rfl, h2, by omega, by omega, s2⟩
  rw [if_neg c1]
  by_cases c2 : v1 = 2
  · rw [if_pos c2]
    obtain ⟨v2, a2, f2, e2, m2, s2⟩ := one_tells [0, 1, -1, 1000, -1000, 500, 1001] (by simp) s1 k (by omega)
    rw [e2, bsome]
    refine ⟨_, _, _, _, _, rfl, h0, ?_, by omega, s2⟩
    simp at m2; omega
  rw [if_neg c2]
  obtain ⟨v2, a2, f2, e2, p2, q2, s2⟩ := pick_tells 6 s1 k (by omega)
  rw [e2, bsome]
  refine ⟨_, _, _, _, _, rfl, h0, ?_, by omega, s2⟩
  rw [w64 (by omega) (by omega)]; omega

theorem good_tells {l : List Int} {a f : Int} (h : Src l a f) (k : Nat) (hk : 30 < k) : ∃ x y z a' f', spec_source_good.f k l a f = some (x, y, z, a', f') ∧ z.size ≤ 20 ∧ (-1001 ≤ y ∧ y ≤ 1001) ∧ (0 ≤ x ∧ x ≤ 2) ∧ Src l a' f' := by
  unfold spec_source_good.f
  obtain ⟨x, y, z, a1, f1, e1, h1, h2, h3, s1⟩ := value_tells h k (by omega)
  rw [e1, bsome, spec_val_at x y z (by omega) k (by omega), bsome]
  have h0 : (⟨#[]⟩ : ByteArray).size ≤ 20 := by decide
  split
  · exact ⟨_, _, _, _, _, rfl, h1, h2, h3, s1⟩
  · exact ⟨_, _, _, _, _, rfl, h0, by omega, by omega, s1⟩

theorem rules_l {l : List Int} : ∀ (n k : Nat) (acc : List S30) (a f : Int), Src l a f → n * 2 + 40 < k → acc.length + n ≤ 1000 → (∀ x ∈ acc, x.f3.f2.size ≤ 20) → ∃ r a' f', spec_source_rules.l0 k acc (n : Int) l a f = some (r, a', f') ∧ r.length ≤ acc.length + n + 1 ∧ (∀ x ∈ r, x.f3.f2.size ≤ 20) ∧ Src l a' f' := by
  intro n
  induction n with
  | zero =>
    intro k acc a f h hk hn ha
    obtain ⟨k, rfl⟩ : ∃ m, k = m + 1 := ⟨k - 1, by omega⟩
    simp only [spec_source_rules.l0]
    rw [if_neg (by omega)]
    obtain ⟨v, a1, f1, e1, s1⟩ := rarely_tells h k (by omega)
    rw [e1, bsome]
    cases v with
    | true =>
      rw [if_pos rfl, if_pos (by omega)]
      refine ⟨_, _, _, rfl, by simp, fun x hx => ?_, s1⟩
      rcases List.mem_append.1 hx with hx | hx
      · exact ha x hx
      · simp at hx; subst hx; show (⟨#[]⟩ : ByteArray).size ≤ 20; decide
    | false =>
      rw [if_neg (by simp)]
      exact ⟨_, _, _, rfl, by omega, ha, s1⟩
  | succ n ih =>
    intro k acc a f h hk hn ha
    obtain ⟨k, rfl⟩ : ∃ m, k = m + 2 := ⟨k - 2, by omega⟩
    have hj : ∀ (a f : Int) (t0 t1 nm v0 v1 : Int) (v2 : ByteArray) (lk gv : Int), Src l a f → v2.size ≤ 20 → ∃ r a' f', spec_source_rules.j1 (k + 1) acc ((n + 1 : Nat) : Int) l a f t0 t1 nm v0 v1 v2 lk gv = some (r, a', f') ∧ r.length ≤ acc.length + (n + 1) + 1 ∧ (∀ x ∈ r, x.f3.f2.size ≤ 20) ∧ Src l a' f' := by
      intro a f t0 t1 nm v0 v1 v2 lk gv s hv
      have fin : ∀ (g : Int) (a2 f2 : Int), Src l a2 f2 → ∃ r a' f', (if acc.length < 1954687338268 then spec_source_rules.l0 k (acc ++ [(⟨t0, t1, nm, ⟨v0, v1, v2⟩, lk, g⟩ : S30)]) (wrap64 (((n + 1 : Nat) : Int) - 1)) l a2 f2 else none) = some (r, a', f') ∧ r.length ≤ acc.length + (n + 1) + 1 ∧ (∀ x ∈ r, x.f3.f2.size ≤ 20) ∧ Src l a' f' := by
        intro g a2 f2 s2
        rw [if_pos (by omega), w64 (by omega) (by omega), show ((n + 1 : Nat) : Int) - 1 = (n : Int) by omega]
        obtain ⟨r, a', f', er, hr, hr', sr⟩ := ih k (acc ++ [(⟨t0, t1, nm, ⟨v0, v1, v2⟩, lk, g⟩ : S30)]) a2 f2 s2 (by omega) (by simp; omega) (fun x hx => by
          rcases List.mem_append.1 hx with hx | hx
          · exact ha x hx
          · simp at hx; subst hx; exact hv)
        exact ⟨r, a', f', er, by simp at hr; omega, hr', sr⟩
      simp only [spec_source_rules.j1]
      obtain ⟨u1, a1, f1, e1, -, -, s1⟩ := pick_tells 61 s k (by omega)
      rw [e1, bsome]
      obtain ⟨u2, a2, f2, e2, -, s2⟩ := one_tells [0, 1, 2, 3, 10, 30, u1] (by simp) s1 k (by omega)
      show ∃ r a' f', Option.bind (spec_source_one.f k l a1 f1 [0, 1, 2, 3, 10, 30, u1]) _ = some (r, a', f') ∧ _
      rw [e2, bsome]
      by_cases c2 : lk = 2
      · rw [if_pos c2]
        obtain ⟨u3, a3, f3, e3, -, s3⟩ := one_tells [0, 1, 1, 2, 5] (by simp) s2 k (by omega)
        show ∃ r a' f', Option.bind (spec_source_one.f k l a2 f2 [0, 1, 1, 2, 5]) _ = some (r, a', f') ∧ _
        rw [e3, bsome]; exact fin _ _ _ s3
      rw [if_neg c2]
      by_cases c1 : lk = 1
      · rw [if_pos c1]
        obtain ⟨u3, a3, f3, e3, -, s3⟩ := one_tells [0, 1, 1, 2, 5] (by simp) s2 k (by omega)
        show ∃ r a' f', Option.bind (spec_source_one.f k l a2 f2 [0, 1, 1, 2, 5]) _ = some (r, a', f') ∧ _
        rw [e3, bsome]; exact fin _ _ _ s3
      rw [if_neg c1]; exact fin _ _ _ s2
    simp only [spec_source_rules.l0]
    rw [if_pos (by omega)]
    obtain ⟨u1, a1, f1, e1, -, -, s1⟩ := pick_tells 5 h (k + 1) (by omega)
    rw [e1, bsome]
    obtain ⟨u2, a2, f2, e2, -, s2⟩ := one_tells [-1, u1] (by simp) s1 (k + 1) (by omega)
    show ∃ r a' f', Option.bind (spec_source_one.f (k + 1) l a1 f1 [-1, u1]) _ = some (r, a', f') ∧ _
    rw [e2, bsome]
    obtain ⟨u3, a3, f3, e3, -, -, s3⟩ := pick_tells 5 s2 (k + 1) (by omega)
    show ∃ r a' f', Option.bind (spec_source_pick.f (k + 1) l a2 f2 5) _ = some (r, a', f') ∧ _
    rw [e3, bsome]
    obtain ⟨u4, a4, f4, e4, -, s4⟩ := one_tells [-1, -1, u3] (by simp) s3 (k + 1) (by omega)
    show ∃ r a' f', Option.bind (spec_source_one.f (k + 1) l a3 f3 [-1, -1, u3]) _ = some (r, a', f') ∧ _
    rw [e4, bsome]
    obtain ⟨u5, a5, f5, e5, -, -, s5⟩ := pick_tells 5 s4 (k + 1) (by omega)
    show ∃ r a' f', Option.bind (spec_source_pick.f (k + 1) l a4 f4 5) _ = some (r, a', f') ∧ _
    rw [e5, bsome]
    obtain ⟨u6, a6, f6, e6, -, -, s6⟩ := pick_tells 3 s5 (k + 1) (by omega)
    show ∃ r a' f', Option.bind (spec_source_pick.f (k + 1) l a5 f5 3) _ = some (r, a', f') ∧ _
    rw [e6, bsome]
    by_cases c0 : u6 = 0
    · rw [if_pos c0]
      obtain ⟨u7, a7, f7, e7, -, -, s7⟩ := pick_tells 4 s6 (k + 1) (by omega)
      show ∃ r a' f', Option.bind (spec_source_pick.f (k + 1) l a6 f6 4) _ = some (r, a', f') ∧ _
      rw [e7, bsome]
      obtain ⟨x, y, z, a8, f8, e8, h8, -, -, s8⟩ := good_tells s7 (k + 1) (by omega)
      show ∃ r a' f', Option.bind (spec_source_good.f (k + 1) l a7 f7) _ = some (r, a', f') ∧ _
      rw [e8, bsome]
      exact hj _ _ _ _ _ _ _ _ _ _ s8 h8
    · rw [if_neg c0]
      exact hj _ _ _ _ _ _ _ _ _ _ s6 (by decide)
theorem rules_tells {l : List Int} {a f : Int} (h : Src l a f) (k : Nat) (hk : 80 < k) : ∃ r a' f', spec_source_rules.f k l a f = some (r, a', f') ∧ r.length ≤ 20 ∧ (∀ x ∈ r, x.f3.f2.size ≤ 20) ∧ Src l a' f' := by
  unfold spec_source_rules.f
  obtain ⟨v1, a1, f1, e1, p1, q1, s1⟩ := pick_tells 9 h k (by omega)
  rw [e1, bsome]
  obtain ⟨r, a3, f3, e3, h3, h4, s3⟩ := rules_l v1.toNat k ([] : List S30) a1 f1 s1 (by omega) (by simp; omega) (by simp)
  rw [show ((v1.toNat : Nat) : Int) = v1 by omega] at e3
  exact ⟨r, a3, f3, e3, by simp at h3; omega, h4, s3⟩

theorem empty_list : (⟨#[]⟩ : ByteArray).toList = ([] : List UInt8) := by kernel_rfl
def bareY (x : S30) : S30 := ⟨x.f0, x.f1, -1, ⟨0, 0, ⟨#[]⟩⟩, x.f4, x.f5⟩
def bareZ (x : S30) : S30 := ⟨-1, x.f1, -1, ⟨0, 0, ⟨#[]⟩⟩, x.f4, x.f5⟩
theorem zero_ok : vOk 0 0 (⟨#[]⟩ : ByteArray) = true := by unfold vOk; rw [if_pos rfl, if_pos rfl, empty_list]; rfl
theorem bareY_ok {x : S30} (h : rOk x = true) : rOk (bareY x) = true := by
  unfold rOk at h
  simp only [Bool.and_eq_true, decide_eq_true_eq] at h
  unfold rOk bareY
  simp only [Bool.and_eq_true, decide_eq_true_eq]
  refine ⟨h.1, h.2.1, by omega, zero_ok, ?_, h.2.2.2.2.2⟩
  simp [empty_list]
theorem weigh {x : S30} (h : rOk x = true) : rwt (bareY x) ≤ rwt x ∧ rwt (bareZ x) ≤ rwt (bareY x) := by
  have hy := bareY_ok h
  unfold rwt
  rw [if_pos h, if_pos hy]
  have e1 : wgt (bareY x) = (if x.f0 = -1 then 0 else 1) + (if x.f1 = -1 then 0 else 1) := by unfold wgt bareY; simp
  have e2 : wgt (bareZ x) = (if x.f1 = -1 then 0 else 1) := by unfold wgt bareZ; simp
  have e3 : wgt x = (if x.f0 = -1 then 0 else 1) + (if x.f1 = -1 then 0 else 1) + (if x.f2 = -1 then 0 else 10) := rfl
  rw [e1, e2, e3]
  refine ⟨by split <;> split <;> split <;> omega, ?_⟩
  split <;> split <;> split <;> omega
theorem weightDraw {l : List Int} (h : Src l 0 4000) (k : Nat) (hk : 80 < k) : ∃ x : S30, spec_DrawRuleWeight.f k l = some (x.f0, x.f1, x.f2, x.f3.f0, x.f3.f1, x.f3.f2, x.f4, x.f5) ∧ x.f3.f2.size ≤ 20 := by
  unfold spec_DrawRuleWeight.f spec_newSource.f
  rw [bsome]
  obtain ⟨s, a1, f1, e1, h1, h2, s1⟩ := rules_tells h k hk
  show ∃ x : S30, Option.bind (spec_source_rules.f k l 0 4000) _ = some (x.f0, x.f1, x.f2, x.f3.f0, x.f3.f1, x.f3.f2, x.f4, x.f5) ∧ _
  rw [e1, bsome]
  obtain ⟨u, a2, f2, e2, -, s2⟩ := one_tells [-2, -1, 4, 5] (by simp) s1 k (by omega)
  show ∃ x : S30, Option.bind (spec_source_one.f k l a1 f1 [-2, -1, 4, 5]) _ = some (x.f0, x.f1, x.f2, x.f3.f0, x.f3.f1, x.f3.f2, x.f4, x.f5) ∧ _
  rw [e2, bsome, if_pos (by show s.length < _; omega), bsome]
  have hb : ∀ x ∈ s ++ [(⟨u, -1, -1, ⟨0, 0, ⟨#[]⟩⟩, 0, 0⟩ : S30)], x.f3.f2.size ≤ 20 := fun x hx => by
    rcases List.mem_append.1 hx with hx | hx
    · exact h2 x hx
    · simp at hx; subst hx; show (⟨#[]⟩ : ByteArray).size ≤ 20; decide
  have hlen : 0 < (s ++ [(⟨u, -1, -1, ⟨0, 0, ⟨#[]⟩⟩, 0, 0⟩ : S30)]).length := by simp
  have hle : (s ++ [(⟨u, -1, -1, ⟨0, 0, ⟨#[]⟩⟩, 0, 0⟩ : S30)]).length ≤ 21 := by simp; omega
  show ∃ x : S30, Option.bind (spec_source_pick.f k l a2 f2 ((s ++ [(⟨u, -1, -1, ⟨0, 0, ⟨#[]⟩⟩, 0, 0⟩ : S30)]).length : Int)) (fun bt246 => (if 0 ≤ bt246.1 then (if bt246.1 < ((s ++ [(⟨u, -1, -1, ⟨0, 0, ⟨#[]⟩⟩, 0, 0⟩ : S30)]).length : Int) then (some ((rd_T30 (s ++ [(⟨u, -1, -1, ⟨0, 0, ⟨#[]⟩⟩, 0, 0⟩ : S30)]) bt246.1).f0, (rd_T30 (s ++ [(⟨u, -1, -1, ⟨0, 0, ⟨#[]⟩⟩, 0, 0⟩ : S30)]) bt246.1).f1, (rd_T30 (s ++ [(⟨u, -1, -1, ⟨0, 0, ⟨#[]⟩⟩, 0, 0⟩ : S30)]) bt246.1).f2, (rd_T30 (s ++ [(⟨u, -1, -1, ⟨0, 0, ⟨#[]⟩⟩, 0, 0⟩ : S30)]) bt246.1).f3.f0, (rd_T30 (s ++ [(⟨u, -1, -1, ⟨0, 0, ⟨#[]⟩⟩, 0, 0⟩ : S30)]) bt246.1).f3.f1, (rd_T30 (s ++ [(⟨u, -1, -1, ⟨0, 0, ⟨#[]⟩⟩, 0, 0⟩ : S30)]) bt246.1).f3.f2, (rd_T30 (s ++ [(⟨u, -1, -1, ⟨0, 0, ⟨#[]⟩⟩, 0, 0⟩ : S30)]) bt246.1).f4, (rd_T30 (s ++ [(⟨u, -1, -1, ⟨0, 0, ⟨#[]⟩⟩, 0, 0⟩ : S30)]) bt246.1).f5)) else (none)) else (none))) = some (x.f0, x.f1, x.f2, x.f3.f0, x.f3.f1, x.f3.f2, x.f4, x.f5) ∧ _
  generalize s ++ [(⟨u, -1, -1, ⟨0, 0, ⟨#[]⟩⟩, 0, 0⟩ : S30)] = y at *
  obtain ⟨v, a3, f3, e3, p3, q3, -⟩ := pick_tells (y.length : Int) s2 k (by omega)
  rw [e3, bsome]
  obtain ⟨i, rfl⟩ : ∃ i : Nat, v = (i : Int) := ⟨v.toNat, by omega⟩
  have hi : i < y.length := by omega
  rw [if_pos (by show (0 : Int) ≤ (i : Int); omega), if_pos (by show (i : Int) < _; omega)]
  refine ⟨rd_T30 y (i : Int), rfl, ?_⟩
  rw [rd_rule' hi]; exact hb _ (List.getElem_mem hi)
theorem FnRuleWeight : laws_FnRuleWeight.Pure := by
  intro l _ _ hl
  obtain ⟨k, hk⟩ : ∃ k : Nat, k = 4194304 := ⟨_, rfl⟩
  refine ⟨k + 1, ?_⟩
  unfold laws_FnRuleWeight.f
  by_cases hlen : (l.length : Int) > 1048576
  · rw [if_pos hlen]
  rw [if_neg hlen]
  obtain ⟨x, e1, hs⟩ := weightDraw (src_new hl) (k + 1) (by omega)
  rw [e1, bsome]
  show Option.bind (impl_RuleWeight.f (k + 1) x.f0 x.f1 x.f2 x.f3.f0 x.f3.f1 x.f3.f2 x.f4 x.f5) _ = _
  rw [impl_rw_at x (by omega) (k + 1) (by omega), bsome]
  show Option.bind (spec_RuleWeight.f (k + 1) x.f0 x.f1 x.f2 x.f3.f0 x.f3.f1 x.f3.f2 x.f4 x.f5) _ = _
  rw [spec_rw_at x (by omega) (k + 1) (by omega), bsome, if_pos rfl, beq_self_eq_true]
  show laws_FnRuleWeight.j0 (k + 1) (rwt x) true (decide (rwt x < 0)) x.f0 x.f1 x.f2 x.f3.f0 x.f3.f1 x.f3.f2 x.f4 x.f5 = _
  simp only [laws_FnRuleWeight.j0]
  by_cases h : rOk x = true
  · have hw : ¬ rwt x < 0 := by
      unfold rwt wgt; rw [if_pos h]; split <;> split <;> split <;> omega
    rw [decide_eq_false hw, if_neg (by decide)]
    have hy := impl_rw_at (bareY x) (by show (⟨#[]⟩ : ByteArray).size ≤ 2097152; decide) k (by omega)
    have hz := impl_rw_at (bareZ x) (by show (⟨#[]⟩ : ByteArray).size ≤ 2097152; decide) k (by omega)
    obtain ⟨w1, w2⟩ := weigh h
    have hy' : impl_RuleWeight.f k x.f0 x.f1 (-1) 0 0 (⟨#[]⟩ : ByteArray) x.f4 x.f5 = some (rwt (bareY x)) := hy
    have hz' : impl_RuleWeight.f k (-1) x.f1 (-1) 0 0 (⟨#[]⟩ : ByteArray) x.f4 x.f5 = some (rwt (bareZ x)) := hz
    rw [hy', bsome, if_pos w1, hz', bsome, bsome, decide_eq_true w2]
  · have hw : rwt x < 0 := by unfold rwt; rw [if_neg h]; decide
    rw [decide_eq_true hw, if_pos rfl]

end Go.Proofs.Ytheifobeaemegaa.Pure
