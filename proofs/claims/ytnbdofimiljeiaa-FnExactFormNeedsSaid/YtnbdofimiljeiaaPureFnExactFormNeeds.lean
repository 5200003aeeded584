/- The pure statement of the law 'FnExactFormNeeds': for every formula and every kind the law's function returns true, so the program's FormNeeds is the reference's and shares no memory (no other condition). -/
import Derived.Test.YtnbdofimiljeiaaQFnExactFormNeedsx8
namespace Go.Proofs.Ytnbdofimiljeiaa.Pure
open Go Go.RowKit Go.Proofs.Ytnbdofimiljeiaa.PFnExactFormNeeds Go.Proofs.YtnbdofimiljeiaaW.PrintWords Go.Proofs.YtnbdofimiljeiaaW.PrintLast
set_option linter.unusedVariables false
set_option linter.unusedSimpArgs false

theorem w64 {n : Int} (h1 : -9223372036854775808 ≤ n) (h2 : n ≤ 9223372036854775807) : wrap64 n = n := by
  unfold wrap64; omega
theorem wnext {i n : Nat} (h : i < n) (hn : n ≤ 4611686018427387904) : wrap64 ((i : Int) + 1) = ((i + 1 : Nat) : Int) := by
  rw [w64 (by omega) (by omega)]; omega
/-- A loop that goes up to n, by rounds. -/
theorem loop_up {n : Nat} (Q : Nat → Nat → Prop) (last : ∀ k, Q (k + 1) n) (step : ∀ k i, i < n → Q k (i + 1) → Q (k + 1) i) : ∀ k i, i ≤ n → n - i < k → Q k i := by
  intro k
  induction k with
  | zero => intro i _ h; omega
  | succ k ih =>
    intro i hi hk
    by_cases h : i = n
    · subst h; exact last k
    · exact step k i (by omega) (ih (i + 1) (by omega) (by omega))
theorem drop_at {α : Type} {l : List α} {i : Nat} (d : α) (h : i < l.length) : l.drop i = l.getD ((i : Int)).toNat d :: l.drop (i + 1) := by
  rw [List.drop_eq_getElem_cons h, List.getD_eq_getElem?_getD]
  simp [h]
theorem range_at {i n : Nat} (h : i < n) : List.range' i (n - i) = i :: List.range' (i + 1) (n - (i + 1)) := by
  rw [show n - i = (n - (i + 1)) + 1 by omega, List.range'_succ]
theorem range_end (n : Nat) : List.range' n (n - n) = [] := by simp
theorem bsome {α β : Type} (a : α) (f : α → Option β) : (some a).bind f = f a := by
  cases h : f a <;> simp [h]

theorem getD_at {α : Type} {l : List α} {i : Nat} (d : α) (h : i < l.length) : l.getD ((i : Int)).toNat d = l[i] := by
  simp [List.getD_eq_getElem?_getD, h]
theorem drop_cons {α : Type} {l : List α} {i : Nat} (h : i < l.length) : l.drop i = l[i] :: l.drop (i + 1) := List.drop_eq_getElem_cons h
/-- A loop that goes up to n, s rounds a turn, with m rounds to spare. -/
theorem loop_s {n m s : Nat} (hs : 0 < s) (Q : Nat → Nat → Prop) (last : ∀ k, m ≤ k → Q (k + 1) n) (step : ∀ k i, i < n → m ≤ k → Q k (i + 1) → Q (k + s) i) : ∀ d i k, n - i = d → i ≤ n → d * s + m < k → Q k i := by
  intro d
  induction d with
  | zero =>
    intro i k hd hi hk
    obtain rfl : i = n := by omega
    obtain ⟨k, rfl⟩ : ∃ q, k = q + 1 := ⟨k - 1, by omega⟩
    exact last k (by omega)
  | succ d ih =>
    intro i k hd hi hk
    rw [Nat.add_mul, Nat.one_mul] at hk
    obtain ⟨k, rfl⟩ : ∃ q, k = q + s := ⟨k - s, by omega⟩
    exact step k i (by omega) (by omega) (ih (i + 1) k (by omega) (by omega) (by omega))
/-- A loop that asks each element. -/
theorem all_loop {α : Type} (xs : List α) (F : Nat → Int → Option Bool) (p : α → Bool) (fin : Bool) (m s : Nat) (hs : 0 < s)
    (hend : ∀ k, m ≤ k → F (k + 1) (xs.length : Int) = some fin)
    (hstep : ∀ k i (h : i < xs.length), m ≤ k → F (k + s) (i : Int) = if p xs[i] = true then F k ((i + 1 : Nat) : Int) else some false) :
    ∀ k, xs.length * s + m < k → F k 0 = some (xs.all p && fin) := by
  intro k hk
  have := loop_s (n := xs.length) (m := m) (s := s) hs (fun k i => F k (i : Int) = some ((xs.drop i).all p && fin)) (fun k hm => by show F (k + 1) (xs.length : Int) = _; rw [hend k hm, List.drop_length]; rfl)
    (fun k i h hm ih => by
      show F (k + s) (i : Int) = _
      rw [hstep k i h hm, drop_cons h, List.all_cons]
      have ih' : F k ((i + 1 : Nat) : Int) = some ((xs.drop (i + 1)).all p && fin) := ih
      rw [ih']
      by_cases hp : p xs[i] = true <;> simp [hp]) xs.length 0 k (by omega) (by omega) hk
  simpa using this
/-- A loop that fills a new list with what a function makes of each element. -/
theorem map_loop {α β : Type} (xs : List α) (F : Nat → List β → Int → Option (List β)) (c : α → β) (z : β) (m s : Nat) (hs : 0 < s)
    (hend : ∀ k acc, m ≤ k → F (k + 1) acc (xs.length : Int) = some acc)
    (hstep : ∀ k (acc : List β) i (h : i < xs.length), m ≤ k → i < acc.length → F (k + s) acc (i : Int) = F k (acc.set i (c xs[i])) ((i + 1 : Nat) : Int)) :
    ∀ k, xs.length * s + m < k → F k (List.replicate xs.length z) 0 = some (xs.map c) := by
  intro k hk
  have := loop_s (n := xs.length) (m := m) (s := s) hs (fun k i => ∀ p : List β, p.length = i → F k (p ++ List.replicate (xs.length - i) z) (i : Int) = some (p ++ (xs.drop i).map c))
    (fun k hm p hp => by rw [hend k _ hm]; simp)
    (fun k i h hm ih p hp => by
      rw [hstep k _ i h hm (by simp; omega), show xs.length - i = (xs.length - (i + 1)) + 1 by omega, List.replicate_succ]
      have e : (p ++ z :: List.replicate (xs.length - (i + 1)) z).set i (c xs[i]) = (p ++ [c xs[i]]) ++ List.replicate (xs.length - (i + 1)) z := by
        subst hp; simp
      rw [e, ih (p ++ [c xs[i]]) (by simp [hp]), drop_cons h, List.map_cons, List.append_assoc]; rfl) xs.length 0 k (by omega) (by omega) hk [] rfl
  simpa using this
/-- A loop that takes the sizes of the elements off what is left. -/
theorem sz_loop {α : Type} (xs : List α) (F : Nat → Int → Int → Option Int) (sz : α → Nat) (m s : Nat) (hs : 0 < s)
    (hend : ∀ (k : Nat) (left : Int), m ≤ k → F (k + 1) left (xs.length : Int) = some left)
    (hstep : ∀ (k : Nat) (left : Int) (i : Nat) (h : i < xs.length), m ≤ k → 0 ≤ left → left ≤ 1048576 → ∃ t, t ≤ left ∧ (0 ≤ t → t = left - sz xs[i]) ∧ F (k + s) left (i : Int) = if t < 0 then some (-1) else F k t ((i + 1 : Nat) : Int)) :
    ∀ (k : Nat) (left : Int), xs.length * s + m < k → 0 ≤ left → left ≤ 1048576 → ∃ r, F k left 0 = some r ∧ r ≤ left ∧ (0 ≤ r → r = left - (xs.map sz).sum) := by
  intro k left hk h0 h1
  have := loop_s (n := xs.length) (m := m) (s := s) hs (fun k i => ∀ left : Int, 0 ≤ left → left ≤ 1048576 → ∃ r, F k left (i : Int) = some r ∧ r ≤ left ∧ (0 ≤ r → r = left - ((xs.drop i).map sz).sum))
    (fun k hm left h0 h1 => ⟨left, by rw [hend k _ hm], by omega, by simp⟩)
    (fun k i h hm ih left h0 h1 => by
      obtain ⟨t, t1, t2, t3⟩ := hstep k left i h hm h0 h1
      by_cases ht : t < 0
      · exact ⟨-1, by rw [t3, if_pos ht], by omega, by omega⟩
      · obtain ⟨r, r1, r2, r3⟩ := ih t (by omega) (by omega)
        refine ⟨r, by rw [t3, if_neg ht, r1], by omega, fun hr => ?_⟩
        rw [r3 hr, t2 (by omega), drop_cons h, List.map_cons, List.sum_cons]; omega) xs.length 0 k (by omega) (by omega) hk left h0 h1
  simpa using this
theorem sum_mem {α : Type} {xs : List α} {sz : α → Nat} {x : α} (h : x ∈ xs) : sz x ≤ (xs.map sz).sum := by
  induction xs with
  | nil => cases h
  | cons y ys ih =>
    rw [List.map_cons, List.sum_cons]
    rcases List.mem_cons.1 h with rfl | h
    · omega
    · have := ih h; omega

theorem within_at (a b c : Int) : impl_within.f a b c = some (decide (b ≤ a ∧ a ≤ c)) := by
  unfold impl_within.f
  by_cases h : a ≥ b
  · rw [if_pos h]; congr 1; exact decide_eq_decide.mpr ⟨fun x => ⟨h, x⟩, fun x => x.2⟩
  · rw [if_neg h]; congr 1; exact (decide_eq_false fun x => h x.1).symm

theorem inRange_at (a b c : Int) : spec_inRange.f a b c = some (decide (b ≤ a ∧ a ≤ c)) := by
  unfold spec_inRange.f
  by_cases h : a ≥ b
  · rw [if_pos h]; congr 1; exact decide_eq_decide.mpr ⟨fun x => ⟨h, x⟩, fun x => x.2⟩
  · rw [if_neg h]; congr 1; exact (decide_eq_false fun x => h x.1).symm

def Good (c : Int) : Prop := (97 ≤ c ∧ c ≤ 122) ∨ (48 ≤ c ∧ c ≤ 57) ∨ c = 32
instance (c : Int) : Decidable (Good c) := by unfold Good; exact inferInstance
def goodsFrom (s : ByteArray) (i : Nat) : Bool := (List.range' i (s.size - i)).all fun j => decide (Good (bt s j))
theorem goods_at {s : ByteArray} {i : Nat} (h : i < s.size) : goodsFrom s i = (decide (Good (bt s i)) && goodsFrom s (i + 1)) := by
  unfold goodsFrom; rw [range_at h]; rfl
theorem goods_end (s : ByteArray) : goodsFrom s s.size = true := by
  unfold goodsFrom; rw [range_end]; rfl
def wordOk (s : ByteArray) : Bool := goodsFrom s 0 && decide (s.size ≤ 12)
theorem impl_word_l (s : ByteArray) (hs : s.size ≤ 4611686018427387904) : ∀ k i, i ≤ s.size → s.size - i < k → impl_word.l0 k s (i : Int) = some (goodsFrom s i && decide (s.size ≤ 12)) := by
  refine loop_up (fun k i => impl_word.l0 k s (i : Int) = some (goodsFrom s i && decide (s.size ≤ 12))) ?_ ?_
  · intro k
    simp only [impl_word.l0]
    rw [if_neg (by omega), goods_end, Bool.true_and]
    congr 1; exact decide_eq_decide.mpr (by omega)
  · intro k i hi ih
    have e : impl_word.l0 (k + 1) s (i : Int) = if Good (bt s i) then impl_word.l0 k s (wrap64 ((i : Int) + 1)) else some false := by
      simp only [impl_word.l0]
      rw [if_pos (by omega), if_pos (by omega)]
      by_cases hg : Good (bt s i)
      · rw [if_pos hg]; unfold Good at hg
        repeat' split
        all_goals first
          | rfl
          | (exfalso; omega)
      · rw [if_neg hg]; unfold Good at hg
        repeat' split
        all_goals first
          | rfl
          | (exfalso; omega)
    rw [e, wnext hi hs, ih, goods_at hi]
    by_cases hg : Good (bt s i) <;> simp [hg]
theorem impl_word_at (s : ByteArray) (hs : s.size ≤ 4611686018427387904) (k : Nat) (hk : s.size < k) : impl_word.f k s = some (wordOk s) := by
  have := impl_word_l s hs k 0 (by omega) (by omega)
  unfold impl_word.f wordOk
  exact this

theorem plain_at (c : Int) : spec_plainByte.f c = some (decide (Good c)) := by
  unfold spec_plainByte.f
  by_cases hg : Good c
  · rw [decide_eq_true hg]; unfold Good at hg
    repeat' split
    all_goals first
      | rfl
      | (congr 1; exact beq_iff_eq.mpr (by omega))
      | (exfalso; omega)
  · rw [decide_eq_false hg]; unfold Good at hg
    repeat' split
    all_goals first
      | rfl
      | (congr 1; exact beq_eq_false_iff_ne.mpr (by omega))
      | (exfalso; omega)
theorem spec_word_l (s : ByteArray) (hs : s.size ≤ 4611686018427387904) : ∀ k i, i ≤ s.size → s.size - i < k → spec_validWord.l0 k s (i : Int) = some (goodsFrom s i) := by
  refine loop_up (fun k i => spec_validWord.l0 k s (i : Int) = some (goodsFrom s i)) ?_ ?_
  · intro k
    simp only [spec_validWord.l0]
    rw [if_neg (by omega), goods_end]
  · intro k i hi ih
    simp only [spec_validWord.l0]
    rw [if_pos (by omega), if_pos (by omega), plain_at, goods_at hi]
    simp only [Option.bind_some, wnext hi hs, ih]
    by_cases hg : Good (bt s i) <;> simp [hg]
theorem spec_word_at (s : ByteArray) (hs : s.size ≤ 4611686018427387904) (k : Nat) (hk : s.size < k) : spec_validWord.f k s = some (wordOk s) := by
  have := spec_word_l s hs k 0 (by omega) (by omega)
  unfold spec_validWord.f wordOk
  by_cases h : (s.size : Int) > 12
  · rw [if_pos h, show decide (s.size ≤ 12) = false from decide_eq_false (by omega), Bool.and_false]
  · rw [if_neg h, show decide (s.size ≤ 12) = true from decide_eq_true (by omega), Bool.and_true]; exact this

def vOk (a b : Int) (s : ByteArray) : Bool :=
  if a = 0 then (if b = 0 then s.toList == ([] : List UInt8) else false)
  else if a = 1 then (if -1000 ≤ b ∧ b ≤ 1000 then s.toList == ([] : List UInt8) else false)
  else if a = 2 then (if b = 0 then wordOk s else false) else false
theorem impl_valOk_at (a b : Int) (s : ByteArray) (hs : s.size ≤ 4611686018427387904) (k : Nat) (hk : s.size < k) : impl_ValOk.f k a b s = some (vOk a b s) := by
  unfold impl_ValOk.f vOk
  simp only [within_at, impl_word_at s hs k hk, Option.bind_some, decide_eq_true_eq]
  repeat' split
  all_goals rfl

theorem spec_val_at (a b : Int) (s : ByteArray) (hs : s.size ≤ 4611686018427387904) (k : Nat) (hk : s.size < k) : spec_validValue.f k a b s = some (vOk a b s) := by
  unfold spec_validValue.f vOk
  simp only [inRange_at, spec_word_at s hs k hk, Option.bind_some, decide_eq_true_eq]
  repeat' split
  all_goals rfl

def valZ (x : S51) : Bool := x.f2.f0 == 0 && (x.f2.f1 == 0 && (x.f2.f2.toList == ([] : List UInt8)))
/-- Is a step's number one that its kind has? -/
def numOk (x : S51) (p s t : Int) : Bool :=
  if x.f0 = 1 then decide (0 ≤ x.f1 ∧ x.f1 ≤ p - 1) else if x.f0 = 2 then decide (0 ≤ x.f1 ∧ x.f1 ≤ s - 1) else if x.f0 = 3 then decide (0 ≤ x.f1 ∧ x.f1 ≤ t - 1)
  else if x.f0 = 4 then decide (0 ≤ x.f1 ∧ x.f1 ≤ 1) else if x.f0 = 5 then decide (0 ≤ x.f1 ∧ x.f1 ≤ 6) else if x.f0 = 6 then decide (x.f1 = 0) else false
def stOk (x : S51) (p s t : Int) : Bool := if x.f0 = 0 then (decide (x.f1 = 0) && vOk x.f2.f0 x.f2.f1 x.f2.f2) else (valZ x && numOk x p s t)
def takesN (x : S51) : Int := if x.f0 = 5 then 2 else if x.f0 = 6 then 3 else 0
def fits (p s t : Int) : List S51 → Int → Bool
  | [], n => n == 1
  | x :: xs, n => if stOk x p s t = true ∧ takesN x ≤ n then fits p s t xs (n - takesN x + 1) else false
def formOk (l : List S51) (p s t : Int) : Bool := fits p s t l 0 && decide (l.length ≤ 9)
theorem takesN_in (x : S51) : 0 ≤ takesN x ∧ takesN x ≤ 3 := by
  unfold takesN
  repeat' split
  all_goals omega
theorem rd_step {l : List S51} {i : Nat} (h : i < l.length) : rd_T51 l (i : Int) = l[i] := getD_at z51 h

theorem takes_at (x : S51) : spec_takes.f x.f0 x.f1 x.f2.f0 x.f2.f1 x.f2.f2 = some (takesN x) := by
  unfold spec_takes.f takesN; repeat' split
  all_goals rfl
theorem validStep_at' (x : S51) (p s t : Int) (hp : 0 ≤ p ∧ p ≤ 1000) (hq : 0 ≤ s ∧ s ≤ 1000) (ht : 0 ≤ t ∧ t ≤ 1000) (hs : x.f2.f2.size ≤ 4611686018427387904) (k : Nat) (hk : x.f2.f2.size < k) :
    spec_validStep.f k x.f0 x.f1 x.f2.f0 x.f2.f1 x.f2.f2 p s t = some (stOk x p s t) := by
  unfold spec_validStep.f stOk numOk
  rw [w64 (n := p - 1) (by omega) (by omega), w64 (n := s - 1) (by omega) (by omega), w64 (n := t - 1) (by omega) (by omega)]
  simp only [inRange_at, spec_val_at _ _ _ hs k hk, bsome]
  have hz : (x.f2.f0 == 0 && (x.f2.f1 == 0 && (x.f2.f2.toList == ([] : List UInt8)))) = valZ x := rfl
  rw [hz]
  by_cases e0 : x.f0 = 0
  · rw [if_pos e0, if_pos e0]
    by_cases e : x.f1 = 0 <;> simp [e]
  rw [if_neg e0, if_neg e0]
  have fin : ∀ b : Bool, (if b = true then some (valZ x) else some false) = some (valZ x && b) := by intro b; cases b <;> simp
  by_cases e1 : x.f0 = 1
  · rw [if_pos e1, if_pos e1, fin]
  rw [if_neg e1, if_neg e1]
  by_cases e2 : x.f0 = 2
  · rw [if_pos e2, if_pos e2, fin]
  rw [if_neg e2, if_neg e2]
  by_cases e3 : x.f0 = 3
  · rw [if_pos e3, if_pos e3, fin]
  rw [if_neg e3, if_neg e3]
  by_cases e4 : x.f0 = 4
  · rw [if_pos e4, if_pos e4, fin]
  rw [if_neg e4, if_neg e4]
  by_cases e5 : x.f0 = 5
  · rw [if_pos e5, if_pos e5, fin]
  rw [if_neg e5, if_neg e5]
  by_cases e6 : x.f0 = 6
  · rw [if_pos e6, if_pos e6]
    by_cases e : x.f1 = 0 <;> simp [e]
  rw [if_neg e6, if_neg e6]; simp
theorem spec_form_at (l : List S51) (p s t : Int) (hp : 0 ≤ p ∧ p ≤ 1000) (hq : 0 ≤ s ∧ s ≤ 1000) (ht : 0 ≤ t ∧ t ≤ 1000) (hl : l.length ≤ 2097152) (m : Nat) (hm : ∀ x ∈ l, x.f2.f2.size < m) (hm' : m ≤ 4611686018427387904) (k : Nat) (hk : l.length + m < k) :
    spec_validForm.f k l p s t = some (formOk l p s t) := by
  have key := loop_s (n := l.length) (m := m) (s := 1) (by omega) (fun k i => ∀ n : Int, 0 ≤ n → n ≤ i → spec_validForm.l0 k l p s t n (i : Int) = some (fits p s t (l.drop i) n))
    (fun k _ n h0 h1 => by simp only [spec_validForm.l0]; rw [if_neg (by omega), List.drop_length]; rfl)
    (fun k i h hk ih n h0 h1 => by
      have hx := hm _ (List.getElem_mem h)
      simp only [spec_validForm.l0]
      rw [if_pos (by omega), if_pos (by omega), rd_step h, drop_cons h]
      generalize l[i] = x at *
      simp only [validStep_at' x p s t hp hq ht (by omega) k (by omega), takes_at, bsome]
      have ht := takesN_in x
      rw [w64 (n := n - takesN x) (by omega) (by omega), w64 (n := n - takesN x + 1) (by omega) (by omega), wnext h (by omega)]
      unfold fits
      cases hst : stOk x p s t
      · simp
      · simp only [if_true, true_and]
        by_cases hn : n < takesN x
        · rw [if_pos hn, if_neg (by omega)]
        · rw [if_neg hn, if_pos (by omega)]; exact ih _ (by omega) (by omega)) l.length 0 k (by omega) (by omega) (by omega) 0 (by omega) (by omega)
  unfold spec_validForm.f formOk
  by_cases h : (l.length : Int) > 9
  · rw [if_pos h, show decide (l.length ≤ 9) = false from decide_eq_false (by omega), Bool.and_false]
  · rw [if_neg h, show decide (l.length ≤ 9) = true from decide_eq_true (by omega), Bool.and_true]; exact key

theorem impl_form_at (l : List S51) (p s t : Int) (hp : 0 ≤ p ∧ p ≤ 1000) (hq : 0 ≤ s ∧ s ≤ 1000) (ht : 0 ≤ t ∧ t ≤ 1000) (hl : l.length ≤ 2097152) (m : Nat) (hm : ∀ x ∈ l, x.f2.f2.size < m) (hm' : m ≤ 4611686018427387904) (k : Nat) (hk : l.length * 2 + m < k) :
    impl_formFits.f k l p s t = some (formOk l p s t) := by
  have key := loop_s (n := l.length) (m := m) (s := 2) (by omega) (fun k i => ∀ n : Int, 0 ≤ n → n ≤ i → impl_formFits.l0 k l p s t n l (l.length : Int) (i : Int) = some (fits p s t (l.drop i) n && decide (l.length ≤ 9)))
    (fun k _ n h0 h1 => by
      simp only [impl_formFits.l0]; rw [if_neg (by omega), List.drop_length]
      unfold fits
      by_cases e : n = 1
      · rw [if_pos e, e]; simp; omega
      · rw [if_neg e]; simp [e])
    (fun k i h hk ih n h0 h1 => by
      have hx := hm _ (List.getElem_mem h)
      simp only [impl_formFits.l0]
      rw [if_pos (by omega), if_pos (by omega), if_pos (by omega), rd_step h, drop_cons h]
      generalize l[i] = x at *
      simp only [impl_formFits.j1, within_at, impl_valOk_at _ _ _ (show x.f2.f2.size ≤ 4611686018427387904 by omega) k (by omega), bsome, wnext h (show l.length ≤ 4611686018427387904 by omega)]
      rw [w64 (n := p - 1) (by omega) (by omega), w64 (n := s - 1) (by omega) (by omega), w64 (n := t - 1) (by omega) (by omega), w64 (n := n + (1 - 0)) (by omega) (by omega), w64 (n := n + (1 - 2)) (by omega) (by omega), w64 (n := n + (1 - 3)) (by omega) (by omega)]
      have hz : (!(x.f2.f0 == 0) || (!(x.f2.f1 == 0) || (!(x.f2.f2.toList == ([] : List UInt8))))) = !valZ x := by unfold valZ; rw [Bool.not_and, Bool.not_and]
      rw [hz]
      have step : ∀ (b : Bool) (c : Int), takesN x = c → (stOk x p s t = b) → (if b = true then (if n < c then some false else impl_formFits.l0 k l p s t (n + (1 - c)) l (l.length : Int) ((i + 1 : Nat) : Int)) else some false) = some (fits p s t (x :: l.drop (i + 1)) n && decide (l.length ≤ 9)) := by
        intro b c hc hb
        subst hc; subst hb
        have ht := takesN_in x
        unfold fits
        cases hst : stOk x p s t
        · simp
        · simp only [if_true, true_and]
          by_cases hn : n < takesN x
          · rw [if_pos hn, if_neg (by omega)]; simp
          · rw [if_neg hn, if_pos (by omega), show n + (1 - takesN x) = n - takesN x + 1 by omega]; exact ih _ (by omega) (by omega)
      by_cases e0 : x.f0 = 0
      · rw [if_pos e0, if_neg (by simp), if_pos e0]
        rw [← step (decide (x.f1 = 0) && vOk x.f2.f0 x.f2.f1 x.f2.f2) 0 (by unfold takesN; rw [if_neg (by omega), if_neg (by omega)]) (by unfold stOk; rw [if_pos e0])]
        by_cases e : x.f1 = 0 <;> simp [e]
      rw [if_neg e0]
      cases hv : valZ x with
      | false =>
        rw [if_pos (show (!false) = true from rfl)]
        have : stOk x p s t = false := by unfold stOk; rw [if_neg e0, hv]; rfl
        rw [← step false (takesN x) rfl this]; simp
      | true =>
        rw [if_neg (by simp), if_neg e0]
        have hst : stOk x p s t = numOk x p s t := by unfold stOk; rw [if_neg e0, hv]; rfl
        by_cases e1 : x.f0 = 1
        · rw [if_pos e1]; exact step _ 0 (by unfold takesN; rw [if_neg (by omega), if_neg (by omega)]) (by rw [hst]; unfold numOk; rw [if_pos e1])
        rw [if_neg e1]
        by_cases e2 : x.f0 = 2
        · rw [if_pos e2]; exact step _ 0 (by unfold takesN; rw [if_neg (by omega), if_neg (by omega)]) (by rw [hst]; unfold numOk; rw [if_neg e1, if_pos e2])
        rw [if_neg e2]
        by_cases e3 : x.f0 = 3
        · rw [if_pos e3]; exact step _ 0 (by unfold takesN; rw [if_neg (by omega), if_neg (by omega)]) (by rw [hst]; unfold numOk; rw [if_neg e1, if_neg e2, if_pos e3])
        rw [if_neg e3]
        by_cases e4 : x.f0 = 4
        · rw [if_pos e4]; exact step _ 0 (by unfold takesN; rw [if_neg (by omega), if_neg (by omega)]) (by rw [hst]; unfold numOk; rw [if_neg e1, if_neg e2, if_neg e3, if_pos e4])
        rw [if_neg e4]
        by_cases e5 : x.f0 = 5
        · rw [if_pos e5]; exact step _ 2 (by unfold takesN; rw [if_pos e5]) (by rw [hst]; unfold numOk; rw [if_neg e1, if_neg e2, if_neg e3, if_neg e4, if_pos e5])
        rw [if_neg e5]
        by_cases e6 : x.f0 = 6
        · rw [if_pos e6, ← step (decide (x.f1 = 0)) 3 (by unfold takesN; rw [if_neg e5, if_pos e6]) (by rw [hst]; unfold numOk; rw [if_neg e1, if_neg e2, if_neg e3, if_neg e4, if_neg e5, if_pos e6])]
          by_cases e : x.f1 = 0 <;> simp [e]
        rw [if_neg e6]
        rw [← step false (takesN x) rfl (by rw [hst]; unfold numOk; rw [if_neg e1, if_neg e2, if_neg e3, if_neg e4, if_neg e5, if_neg e6])]; simp) l.length 0 k (by omega) (by omega) (by omega) 0 (by omega) (by omega)
  unfold impl_formFits.f formOk
  exact key

theorem rd_int {l : List Int} {i : Nat} (h : i < l.length) : rd l (i : Int) = l[i] := getD_at 0 h
/-- Does a formula have a step of a kind with a number? -/
def hasS (f : List S51) (k a : Int) : Bool := f.any fun x => decide (x.f0 = k) && decide (x.f1 = a)
theorem hasS_cons (x : S51) (f : List S51) (k a : Int) : hasS (x :: f) k a = ((decide (x.f0 = k) && decide (x.f1 = a)) || hasS f k a) := rfl
theorem spec_needs_at (f : List S51) (kd a : Int) (hf : f.length ≤ 1048576) (k : Nat) (hk : f.length < k) : spec_needs.f k f kd a = some (hasS f kd a) := by
  have := loop_s (n := f.length) (m := 0) (s := 1) (by omega) (fun k i => spec_needs.l0 k f kd a (i : Int) = some (hasS (f.drop i) kd a))
    (fun k _ => by show spec_needs.l0 (k + 1) f kd a (f.length : Int) = _; simp only [spec_needs.l0]; rw [if_neg (by omega), List.drop_length]; rfl)
    (fun k i h _ ih => by
      show spec_needs.l0 (k + 1) f kd a (i : Int) = _
      have ih' : spec_needs.l0 k f kd a ((i + 1 : Nat) : Int) = some (hasS (f.drop (i + 1)) kd a) := ih
      simp only [spec_needs.l0]
      rw [if_pos (by omega), if_pos (by omega), rd_step h, wnext h (by omega), drop_cons h, hasS_cons, ih']
      by_cases h1 : (f[i]'h).f0 = kd
      · by_cases h2 : (f[i]'h).f1 = a
        · rw [if_pos h1, if_pos h2]; simp [h1, h2]
        · rw [if_pos h1, if_neg h2]; simp [h2]
      · rw [if_neg h1]; simp [h1]) f.length 0 k (by omega) (by omega) (by omega)
  unfold spec_needs.f
  exact this
/-- The numbers 0 to 11 that a formula has with a kind, in order. -/
def needsL (f : List S51) (kd : Int) (i d : Nat) : List Int := ((List.range' i d).map (fun n : Nat => (n : Int))).filter (hasS f kd)
theorem spec_l0_at (f : List S51) (kd : Int) (hf : f.length ≤ 1048576) : ∀ (d i : Nat) (acc : List Int) (k : Nat), i + d = 12 → f.length + d + 1 < k → acc.length + d ≤ 1000 → spec_FormNeeds.l0 k f kd acc (i : Int) = some (acc ++ needsL f kd i d) := by
  intro d
  induction d with
  | zero =>
    intro i acc k hi hk _
    obtain ⟨k, rfl⟩ : ∃ q, k = q + 1 := ⟨k - 1, by omega⟩
    simp only [spec_FormNeeds.l0]
    rw [if_neg (by omega)]; simp [needsL]
  | succ d ih =>
    intro i acc k hi hk ha
    obtain ⟨k, rfl⟩ : ∃ q, k = q + 1 := ⟨k - 1, by omega⟩
    simp only [spec_FormNeeds.l0]
    rw [if_pos (by omega), spec_needs_at f kd _ hf k (by omega), bsome, w64 (by omega) (by omega), show (i : Int) + 1 = ((i + 1 : Nat) : Int) by omega]
    have e : needsL f kd i (d + 1) = (if hasS f kd (i : Int) = true then [(i : Int)] else []) ++ needsL f kd (i + 1) d := by
      unfold needsL
      rw [List.range'_succ, List.map_cons, List.filter_cons]
      split <;> simp
    rw [e]
    by_cases h : hasS f kd (i : Int) = true
    · rw [if_pos h, if_pos h, if_pos (by omega), ih (i + 1) _ k (by omega) (by omega) (by simp; omega)]; simp
    · rw [if_neg h, if_neg h, ih (i + 1) _ k (by omega) (by omega) (by omega)]; simp
theorem needsL_mem {f : List S51} {kd : Int} {i d : Nat} {a : Int} : a ∈ needsL f kd i d ↔ (∃ n : Nat, i ≤ n ∧ n < i + d ∧ (n : Int) = a) ∧ hasS f kd a = true := by
  unfold needsL
  rw [List.mem_filter, List.mem_map]
  constructor
  · rintro ⟨⟨n, hn, e⟩, h⟩
    have := List.mem_range'_1.1 hn
    exact ⟨⟨n, this.1, this.2, e⟩, h⟩
  · rintro ⟨⟨n, h1, h2, e⟩, h⟩
    exact ⟨⟨n, List.mem_range'_1.2 ⟨h1, h2⟩, e⟩, h⟩
theorem needsL_sorted (f : List S51) (kd : Int) : ∀ (d i : Nat), (needsL f kd i d).Pairwise (· < ·) := by
  intro d
  induction d with
  | zero => intro i; simp [needsL]
  | succ d ih =>
    intro i
    have e : needsL f kd i (d + 1) = (if hasS f kd (i : Int) = true then [(i : Int)] else []) ++ needsL f kd (i + 1) d := by
      unfold needsL
      rw [List.range'_succ, List.map_cons, List.filter_cons]
      split <;> simp
    rw [e]
    split
    · show ((i : Int) :: needsL f kd (i + 1) d).Pairwise (· < ·)
      refine List.Pairwise.cons (fun b hb => ?_) (ih (i + 1))
      obtain ⟨⟨n, h1, -, e⟩, -⟩ := needsL_mem.1 hb
      omega
    · exact ih (i + 1)
theorem sorted_eq : ∀ (a b : List Int), a.Pairwise (· < ·) → b.Pairwise (· < ·) → (∀ x, x ∈ a ↔ x ∈ b) → a = b := by
  intro a
  induction a with
  | nil =>
    intro b _ _ h
    cases b with
    | nil => rfl
    | cons y ys => have := (h y).2 (by simp); cases this
  | cons x xs ih =>
    intro b ha hb h
    cases b with
    | nil => have := (h x).1 (by simp); cases this
    | cons y ys =>
      obtain ⟨a1, a2⟩ := List.pairwise_cons.1 ha
      obtain ⟨b1, b2⟩ := List.pairwise_cons.1 hb
      have hxy : x = y := by
        rcases List.mem_cons.1 ((h x).1 (by simp)) with e | e
        · exact e
        rcases List.mem_cons.1 ((h y).2 (by simp)) with e' | e'
        · exact e'.symm
        have := b1 x e; have := a1 y e'; omega
      subst hxy
      rw [ih ys a2 b2 (fun z => ?_)]
      constructor
      · intro hz
        rcases List.mem_cons.1 ((h z).1 (by simp [hz])) with e | e
        · have := a1 z hz; omega
        · exact e
      · intro hz
        rcases List.mem_cons.1 ((h z).2 (by simp [hz])) with e | e
        · have := b1 z hz; omega
        · exact e
theorem contains_at (acc : List Int) (a : Int) (hl : acc.length ≤ 1048576) (k : Nat) (hk : acc.length < k) : slices_Contains_int_int.f k acc a = some (acc.contains a) := by
  have := loop_s (n := acc.length) (m := 0) (s := 1) (by omega) (fun k i => ∃ r, slices_Index_int_int.l0 k acc a (acc.length : Int) (i : Int) = some r ∧ (0 ≤ r ↔ a ∈ acc.drop i))
    (fun k _ => by
      show ∃ r, slices_Index_int_int.l0 (k + 1) acc a (acc.length : Int) (acc.length : Int) = some r ∧ _
      simp only [slices_Index_int_int.l0]
      rw [if_neg (by omega), List.drop_length]
      exact ⟨-1, rfl, by simp⟩)
    (fun k i h _ ih => by
      show ∃ r, slices_Index_int_int.l0 (k + 1) acc a (acc.length : Int) (i : Int) = some r ∧ _
      obtain ⟨r, e1, e2⟩ := ih
      have e1' : slices_Index_int_int.l0 k acc a (acc.length : Int) ((i + 1 : Nat) : Int) = some r := e1
      simp only [slices_Index_int_int.l0]
      rw [if_pos (by omega), if_pos (by omega), if_pos (by omega), rd_int h, wnext h (by omega), drop_cons h]
      by_cases e : a = acc[i]
      · rw [if_pos e]; exact ⟨(i : Int), rfl, fun _ => List.mem_cons.2 (.inl e), fun _ => by omega⟩
      · rw [if_neg e]; exact ⟨r, e1', fun q => List.mem_cons.2 (.inr (e2.1 q)), fun q => e2.2 ((List.mem_cons.1 q).resolve_left e)⟩) acc.length 0 k (by omega) (by omega) (by omega)
  obtain ⟨r, e1, e2⟩ := this
  unfold slices_Contains_int_int.f slices_Index_int_int.f
  have e1' : slices_Index_int_int.l0 k acc a (acc.length : Int) 0 = some r := e1
  rw [e1', bsome]
  congr 1
  rw [List.drop_zero] at e2
  by_cases h : a ∈ acc
  · rw [decide_eq_true (by have := e2.2 h; omega)]; exact (List.contains_iff_mem.2 h).symm
  · rw [decide_eq_false (by intro q; exact h (e2.1 (by omega)))]
    have : ¬ acc.contains a = true := fun q => h (List.contains_iff_mem.1 q)
    simpa using this
/-- The numbers with a kind, each once, as they come. -/
def dd (kd : Int) : List Int → List S51 → List Int
  | acc, [] => acc
  | acc, x :: xs => if x.f0 = kd then (if acc.contains x.f1 = true then dd kd acc xs else dd kd (acc ++ [x.f1]) xs) else dd kd acc xs
theorem dd_props (kd : Int) : ∀ (xs : List S51) (acc : List Int), acc.Nodup → (dd kd acc xs).Nodup ∧ (dd kd acc xs).length ≤ acc.length + xs.length ∧ ∀ a, a ∈ dd kd acc xs ↔ a ∈ acc ∨ hasS xs kd a = true := by
  intro xs
  induction xs with
  | nil => intro acc h; exact ⟨h, by simp [dd], fun a => by simp [dd, hasS]⟩
  | cons x xs ih =>
    intro acc h
    unfold dd
    by_cases h1 : x.f0 = kd
    · rw [if_pos h1]
      by_cases h2 : acc.contains x.f1 = true
      · rw [if_pos h2]
        obtain ⟨a1, a2, a3⟩ := ih acc h
        refine ⟨a1, by simp; omega, fun a => ?_⟩
        rw [a3, hasS_cons]
        have hm := List.contains_iff_mem.1 h2
        by_cases e : x.f1 = a
        · subst e; simp [hm]
        · simp [e]
      · rw [if_neg h2]
        have hm : x.f1 ∉ acc := fun q => h2 (List.contains_iff_mem.2 q)
        obtain ⟨a1, a2, a3⟩ := ih (acc ++ [x.f1]) (List.nodup_append.2 ⟨h, by simp, fun a ha b hb => by simp at hb; subst hb; exact fun e => hm (e ▸ ha)⟩)
        refine ⟨a1, by simp at a2 ⊢; omega, fun a => ?_⟩
        rw [a3, hasS_cons]
        by_cases e : x.f1 = a
        · subst e; simp [h1]
        · have e' : ¬ a = x.f1 := fun q => e q.symm
          simp [e, e']
    · rw [if_neg h1]
      obtain ⟨a1, a2, a3⟩ := ih acc h
      refine ⟨a1, by simp; omega, fun a => ?_⟩
      rw [a3, hasS_cons]; simp [h1]
theorem impl_l0_at (f : List S51) (kd : Int) (hf : f.length ≤ 1048576) (k : Nat) (hk : f.length + 1048600 < k) : impl_FormNeeds.l0 k kd [] f (f.length : Int) 0 = slices_Sort_int_int.f (dd kd [] f) := by
  have := loop_s (n := f.length) (m := 1048580) (s := 1) (by omega) (fun k i => ∀ acc : List Int, acc.length ≤ i → impl_FormNeeds.l0 k kd acc f (f.length : Int) (i : Int) = slices_Sort_int_int.f (dd kd acc (f.drop i)))
    (fun k _ acc _ => by
      simp only [impl_FormNeeds.l0]
      rw [if_neg (by omega), List.drop_length]
      unfold dd
      cases slices_Sort_int_int.f acc <;> rfl)
    (fun k i h hk ih acc ha => by
      simp only [impl_FormNeeds.l0]
      rw [if_pos (by omega), if_pos (by omega), if_pos (by omega), rd_step h, wnext h (by omega), drop_cons h, contains_at acc _ (by omega) k (by omega), bsome]
      conv => rhs; unfold dd
      by_cases h1 : (f[i]'h).f0 = kd
      · rw [if_pos h1, if_pos h1]
        by_cases h2 : acc.contains (f[i]'h).f1 = true
        · rw [if_pos h2, if_pos h2]; exact ih acc (by omega)
        · rw [if_neg h2, if_neg h2, if_pos (by omega)]; exact ih _ (by simp; omega)
      · rw [if_neg h1, if_neg h1]; exact ih acc (by omega)) f.length 0 k (by omega) (by omega) (by omega) [] (by simp)
  simpa using this
theorem fits_all {p s t : Int} : ∀ (l : List S51) (n : Int), fits p s t l n = true → ∀ x ∈ l, stOk x p s t = true := by
  intro l
  induction l with
  | nil => intro n _ x hx; cases hx
  | cons y ys ih =>
    intro n h x hx
    unfold fits at h
    by_cases c : stOk y p s t = true ∧ takesN y ≤ n
    · rw [if_pos c] at h
      rcases List.mem_cons.1 hx with rfl | hx
      · exact c.1
      · exact ih _ h x hx
    · rw [if_neg c] at h; cases h
theorem small_num {x : S51} (h : stOk x 3 3 4 = true) {kd : Int} (hk : 1 ≤ kd ∧ kd ≤ 4) (hx : x.f0 = kd) : 0 ≤ x.f1 ∧ x.f1 < 12 := by
  unfold stOk at h
  rw [if_neg (by omega), Bool.and_eq_true] at h
  have h2 := h.2
  unfold numOk at h2
  by_cases c1 : x.f0 = 1
  · rw [if_pos c1, decide_eq_true_eq] at h2; omega
  rw [if_neg c1] at h2
  by_cases c2 : x.f0 = 2
  · rw [if_pos c2, decide_eq_true_eq] at h2; omega
  rw [if_neg c2] at h2
  by_cases c3 : x.f0 = 3
  · rw [if_pos c3, decide_eq_true_eq] at h2; omega
  rw [if_neg c3] at h2
  by_cases c4 : x.f0 = 4
  · rw [if_pos c4, decide_eq_true_eq] at h2; omega
  omega
theorem sorted_needs {f : List S51} {kd : Int} (h : formOk f 3 3 4 = true) (hk : 1 ≤ kd ∧ kd ≤ 4) (hf : f.length ≤ 1048576) : slices_Sort_int_int.f (dd kd [] f) = some (needsL f kd 0 12) := by
  obtain ⟨d1, d2, d3⟩ := dd_props kd f [] (by simp)
  unfold slices_Sort_int_int.f
  rw [if_pos (by simp at d2; omega)]
  congr 1
  have hp := List.mergeSort_perm (dd kd [] f) (fun x y => decide (x ≤ y))
  have hs := List.pairwise_mergeSort (le := fun x y : Int => decide (x ≤ y)) (fun a b c => by simp only [decide_eq_true_eq]; omega) (fun a b => by simp only [Bool.or_eq_true, decide_eq_true_eq]; omega) (dd kd [] f)
  have hn : ((dd kd [] f).mergeSort fun x y => decide (x ≤ y)).Nodup := hp.nodup_iff.2 d1
  refine sorted_eq _ _ ?_ (needsL_sorted f kd 12 0) (fun a => ?_)
  · refine (hs.and hn).imp (fun {a b} hab => ?_)
    have h1 : a ≤ b := by simpa using hab.1
    have h2 : a ≠ b := hab.2
    omega
  · rw [hp.mem_iff, d3, needsL_mem]
    constructor
    · intro q
      rcases q with q | q
      · cases q
      refine ⟨?_, q⟩
      unfold hasS at q
      obtain ⟨x, hx, hq⟩ := List.any_eq_true.1 q
      simp only [Bool.and_eq_true, decide_eq_true_eq] at hq
      unfold formOk at h; rw [Bool.and_eq_true] at h
      have := small_num (fits_all f 0 h.1 x hx) hk hq.1
      exact ⟨a.toNat, by omega, by omega, by omega⟩
    · intro q; exact .inr q.2
def ndL (f : List S51) (kd : Int) : List Int := if (1 ≤ kd ∧ kd ≤ 4) ∧ formOk f 3 3 4 = true then needsL f kd 0 12 else []
theorem spec_needs_f (f : List S51) (kd : Int) (hf : f.length ≤ 1048576) (hm : ∀ x ∈ f, x.f2.f2.size < 1048577) (k : Nat) (hk : 33554432 < k) : spec_FormNeeds.f k f kd = some (ndL f kd) := by
  have j0 : ∀ b : Bool, spec_FormNeeds.j0 k f kd b = some (if b = true then [] else needsL f kd 0 12) := by
    intro b
    obtain ⟨k, rfl⟩ : ∃ q, k = q + 1 := ⟨k - 1, by omega⟩
    simp only [spec_FormNeeds.j0]
    cases b
    · rw [if_neg (by decide), if_neg (by decide)]
      have := spec_l0_at f kd (by omega) 12 0 [] k (by omega) (by omega) (by simp)
      simpa using this
    · rfl
  unfold spec_FormNeeds.f ndL
  rw [inRange_at, bsome, spec_form_at f 3 3 4 (by omega) (by omega) (by omega) (by omega) 1048577 hm (by omega) k (by omega), bsome]
  simp only [j0, decide_eq_true_eq]
  by_cases h1 : 1 ≤ kd ∧ kd ≤ 4
  · rw [if_pos h1]
    cases h2 : formOk f 3 3 4 <;> simp [h1]
  · rw [if_neg h1, if_neg (show ¬ ((1 ≤ kd ∧ kd ≤ 4) ∧ formOk f 3 3 4 = true) from fun q => h1 q.1)]; rfl
theorem impl_needs_f (f : List S51) (kd : Int) (hf : f.length ≤ 1048576) (hm : ∀ x ∈ f, x.f2.f2.size < 1048577) (k : Nat) (hk : 33554432 < k) : impl_FormNeeds.f k f kd = some (ndL f kd) := by
  have ok : impl_FormOk.f k f 3 3 4 = some (formOk f 3 3 4) := by
    unfold impl_FormOk.f
    simp only [within_at, impl_form_at f 3 3 4 (by omega) (by omega) (by omega) (by omega) 1048577 hm (by omega) k (by omega), bsome]
    simp
  obtain ⟨k, rfl⟩ : ∃ q, k = q + 1 := ⟨k - 1, by omega⟩
  unfold impl_FormNeeds.f ndL
  rw [within_at, bsome, ok, bsome]
  simp only [impl_FormNeeds.j0, impl_l0_at f kd hf k (by omega), decide_eq_true_eq]
  by_cases h1 : 1 ≤ kd ∧ kd ≤ 4
  · rw [if_pos h1]
    cases h2 : formOk f 3 3 4
    · simp [h1]
    · rw [sorted_needs h2 h1 hf]; simp [h1]
  · rw [if_neg h1, if_neg (show ¬ ((1 ≤ kd ∧ kd ≤ 4) ∧ formOk f 3 3 4 = true) from fun q => h1 q.1)]; rfl
theorem ndL_short (f : List S51) (kd : Int) : (ndL f kd).length ≤ 12 := by
  unfold ndL
  split
  · unfold needsL
    refine Nat.le_trans (List.length_filter_le _ _) ?_
    simp
  · simp

def cValue (x : S44) : S49 := ⟨x.f0, x.f1, x.f2⟩

def cStep (x : S46) : S51 := ⟨x.f0, x.f1, cValue x.f2⟩
theorem rd_lstep {l : List S46} {i : Nat} (h : i < l.length) : rd_T46 l (i : Int) = l[i] := getD_at z46 h
theorem toStepS_at (l : List S46) (hl : l.length ≤ 1048576) (k : Nat) (hk : l.length < k) : laws_toStepS.f k l = some (l.map cStep) := by
  unfold laws_toStepS.f
  rw [if_pos (by omega), if_pos (by omega)]
  exact map_loop l (fun k acc i => laws_toStepS.l0 k l acc i) cStep z51 0 1 (by omega)
    (fun k acc _ => by simp only [laws_toStepS.l0]; rw [if_neg (by omega)])
    (fun k acc i h _ ha => by
      simp only [laws_toStepS.l0]
      rw [if_pos (by omega), if_pos (by omega), rd_lstep h]
      simp only [laws_toStep.f, laws_toValue.f, bsome]
      rw [if_pos (by omega), wnext h (by omega)]; rfl) k (by omega)
def szStep (x : S46) : Nat := x.f2.f2.size
/-- How many cells and letters a formula has. -/
def szSteps (l : List S46) : Nat := l.length + (l.map szStep).sum
theorem szval_at (a b : Int) (s : ByteArray) (n : Int) (hn : 0 ≤ n ∧ n ≤ 1048576) (hs : s.size ≤ maxLen) : ∃ r, laws_szValue.f a b s n = some r ∧ (0 ≤ r → r = n - s.size) ∧ r ≤ n := by
  have hm : s.size ≤ 9223372036854775807 := hs
  unfold laws_szValue.f
  rw [w64 (by omega) (by omega)]
  by_cases h : n - (s.size : Int) < 0
  · rw [if_pos h]; exact ⟨_, rfl, by omega, by omega⟩
  · rw [if_neg h]; exact ⟨_, rfl, by omega, by omega⟩

theorem szStepS_at (l : List S46) (hl : l.length ≤ maxLen) (hg : ∀ x ∈ l, x.f2.f2.size ≤ maxLen) (n : Int) (hn : 0 ≤ n ∧ n ≤ 1048576) (k : Nat) (hk : 1048578 < k) : ∃ r, laws_szStepS.f k l n = some r ∧ r ≤ n ∧ (0 ≤ r → r = n - szSteps l) := by
  have hm : l.length ≤ 9223372036854775807 := hl
  unfold laws_szStepS.f
  rw [w64 (by omega) (by omega)]
  by_cases h : n - (l.length : Int) < 0
  · rw [if_pos h]; exact ⟨_, rfl, by omega, by omega⟩
  · rw [if_neg h]
    obtain ⟨r, h1, h2, h3⟩ := sz_loop l (fun k left i => laws_szStepS.l0 k l left i) szStep 0 1 (by omega)
      (fun k left _ => by simp only [laws_szStepS.l0]; rw [if_neg (by omega)])
      (fun k left i h _ h0 h1 => by
        obtain ⟨t, t1, t2, t3⟩ := szval_at l[i].f2.f0 l[i].f2.f1 l[i].f2.f2 left ⟨h0, h1⟩ (hg _ (List.getElem_mem h))
        simp only [laws_szStepS.l0]
        rw [if_pos (by omega), if_pos (by omega), rd_lstep h]
        unfold laws_szStep.f
        rw [t1, bsome]
        by_cases ht : t < 0
        · exact ⟨-1, by omega, by omega, by rw [if_pos ht, bsome, if_pos (by omega), if_pos (by omega)]⟩
        · exact ⟨t, t3, t2, by rw [if_neg ht, bsome, if_neg ht, if_neg ht, wnext h (by omega)]⟩) k (n - (l.length : Int)) (by omega) (by omega) (by omega)
    refine ⟨r, h1, by omega, fun hr => ?_⟩
    have := h3 hr
    unfold szSteps
    omega
theorem szSteps_in {l : List S46} {n : Nat} (h : szSteps l ≤ n) : l.length ≤ n ∧ ∀ x ∈ l.map cStep, x.f2.f2.size < n + 1 := by
  unfold szSteps at h
  refine ⟨by omega, fun x hx => ?_⟩
  obtain ⟨y, hy, rfl⟩ := List.mem_map.1 hx
  have h1 : szStep y ≤ (l.map szStep).sum := sum_mem (sz := szStep) hy
  have h2 : szStep y = y.f2.f2.size := rfl
  show y.f2.f2.size < n + 1
  omega

theorem eqValue_refl (a b : Int) (s : ByteArray) : laws_eqValue.f a b s a b s = some true := by unfold laws_eqValue.f; simp

theorem eqStepS_refl (l : List S51) (hl : l.length ≤ 4611686018427387904) (k : Nat) (hk : l.length < k) : laws_eqStepS.f k l l = some true := by
  unfold laws_eqStepS.f
  rw [if_pos rfl]
  have := all_loop l (fun k i => laws_eqStepS.l0 k l l i) (fun _ => true) true 0 1 (by omega)
    (fun k _ => by simp only [laws_eqStepS.l0]; rw [if_neg (by omega)])
    (fun k i h _ => by
      simp only [laws_eqStepS.l0]
      rw [if_pos (by omega), if_pos (by omega), if_pos (by omega), rd_step h]
      unfold laws_eqStep.f
      simp only [eqValue_refl, bsome, if_true, wnext h hl]) k (by omega)
  rw [this]; congr 1; simp [List.all_eq_true]

def G44 (x : S44) : Prop := (Lit.int .i64 x.f0).wf = true ∧ ((Lit.int .i64 x.f1).wf = true ∧ (x.f2.size ≤ maxLen))
def G46 (x : S46) : Prop := (Lit.int .i64 x.f0).wf = true ∧ ((Lit.int .i64 x.f1).wf = true ∧ (G44 x.f2))
/-- The pure statement: what is known of each argument is that it is a value of its type. -/
def PureFnExactFormNeeds : Prop := ∀ (l0 : List (S46)) (a1 : Int), l0.length ≤ maxLen → (∀ x ∈ l0, G46 x) → (Lit.int .i64 a1).wf = true → ∃ k, laws_FnExactFormNeeds.f k l0 a1 = some true

theorem markText_l : ∀ (n k : Nat) (acc : ByteArray), n < k → acc.size + n ≤ 100000000 → ∃ s, laws_markText.l0 k (n : Int) acc = some s := by
  intro n
  induction n using Nat.strongRecOn with
  | ind n ih =>
    intro k acc hk ha
    obtain ⟨k, rfl⟩ : ∃ q, k = q + 1 := ⟨k - 1, by omega⟩
    simp only [laws_markText.l0]
    by_cases h : n = 0
    · rw [if_neg (by omega), if_pos (by omega)]; exact ⟨_, rfl⟩
    · have e1 : Int.tdiv (n : Int) 10 = ((n / 10 : Nat) : Int) := rfl
      rw [if_pos (by omega), bsome, e1, w64 (n := ((n / 10 : Nat) : Int)) (by omega) (by omega)]
      have hs : ∀ v : Int, (strOfNums [v]).size = 1 := fun v => rfl
      rw [hs, if_pos (by omega)]
      refine ih (n / 10) (by omega) k _ (by omega) ?_
      rw [ByteArray.size_append, hs]; omega
theorem markText_at (n : Nat) (h : n ≤ 90000000) (k : Nat) (hk : n < k) : ∃ s, laws_markText.f k (n : Int) = some s := by
  unfold laws_markText.f
  by_cases h0 : (n : Int) ≤ 0
  · rw [if_pos h0]; exact ⟨_, rfl⟩
  · rw [if_neg h0]
    exact markText_l n k _ hk (by show 0 + n ≤ 100000000; omega)
theorem markStepS_l : ∀ (d i k : Nat) (l : List S51), l.length = i + d → i + d ≤ 2097152 → d + 12000000 < k → ∃ r l', laws_markStepS.l0 k l ((5 * i + 1 : Nat) : Int) (i : Int) = some (r, l') ∧ 0 ≤ r := by
  intro d
  induction d with
  | zero =>
    intro i k l hl hi hk
    obtain ⟨k, rfl⟩ : ∃ q, k = q + 1 := ⟨k - 1, by omega⟩
    simp only [laws_markStepS.l0]
    rw [if_neg (by omega)]
    exact ⟨_, _, rfl, by omega⟩
  | succ d ih =>
    intro i k l hl hi hk
    obtain ⟨k, rfl⟩ : ∃ q, k = q + 1 := ⟨k - 1, by omega⟩
    simp only [laws_markStepS.l0]
    rw [if_pos (by omega), if_pos (by omega), bsome, bsome, bsome, bsome]
    have a1 : wrap64 (((5 * i + 1 : Nat) : Int) + 1) = ((5 * i + 2 : Nat) : Int) := by rw [w64 (by omega) (by omega)]; omega
    have a2 : wrap64 (((5 * i + 2 : Nat) : Int) + 1) = ((5 * i + 3 : Nat) : Int) := by rw [w64 (by omega) (by omega)]; omega
    have a3 : wrap64 (((5 * i + 3 : Nat) : Int) + 1) = ((5 * i + 4 : Nat) : Int) := by rw [w64 (by omega) (by omega)]; omega
    have a4 : wrap64 (((5 * i + 4 : Nat) : Int) + 1) = ((5 * i + 5 : Nat) : Int) := by rw [w64 (by omega) (by omega)]; omega
    have a5 : wrap64 (((5 * i + 5 : Nat) : Int) + 1) = ((5 * (i + 1) + 1 : Nat) : Int) := by rw [w64 (by omega) (by omega)]; omega
    rw [a1, a2, a3, a4, a5]
    obtain ⟨s, es⟩ := markText_at (5 * i + 5) (by omega) k (by omega)
    rw [es, bsome, wnext (i := i) (n := i + d + 1) (by omega) (by omega)]
    exact ih (i + 1) k _ (by simp; omega) (by omega) (by omega)
theorem markStepS_at (l : List S51) (hl : l.length ≤ 2097152) (k : Nat) (hk : 16000000 < k) : ∃ r l', laws_markStepS.f k l 1 = some (r, l') ∧ 0 ≤ r := by
  unfold laws_markStepS.f
  exact markStepS_l l.length 0 k l (by omega) (by omega) (by omega)
/-- The marks 1 to n. -/
def M (n : Nat) : List Int := (List.range' 1 n).map (fun i : Nat => (i : Int))
theorem M_length (n : Nat) : (M n).length = n := by unfold M; simp
theorem M_succ (n : Nat) : M (n + 1) = M n ++ [((n + 1 : Nat) : Int)] := by
  unfold M
  rw [List.range'_concat, List.map_append]; simp [Nat.add_comm]
theorem M_at {n i : Nat} (h : i < n) : rd (M n) (i : Int) = ((i + 1 : Nat) : Int) := by
  rw [rd_int (by rw [M_length]; exact h)]
  unfold M
  simp [Nat.add_comm]
theorem markIntS_at (o : List Int) (ho : o.length ≤ 1000) (k : Nat) (hk : o.length + 10 < k) : laws_markIntS.f k o 1 = some (((o.length + 1 : Nat) : Int), M o.length) := by
  have := loop_s (n := o.length) (m := 0) (s := 1) (by omega) (fun k i => laws_markIntS.l0 k (M i ++ o.drop i) ((i + 1 : Nat) : Int) (i : Int) = some (((o.length + 1 : Nat) : Int), M o.length))
    (fun k _ => by
      show laws_markIntS.l0 (k + 1) (M o.length ++ o.drop o.length) ((o.length + 1 : Nat) : Int) (o.length : Int) = _
      simp only [laws_markIntS.l0]
      rw [List.drop_length, List.append_nil, M_length, if_neg (by omega)])
    (fun k i h _ ih => by
      show laws_markIntS.l0 (k + 1) (M i ++ o.drop i) ((i + 1 : Nat) : Int) (i : Int) = _
      have ih' : laws_markIntS.l0 k (M (i + 1) ++ o.drop (i + 1)) ((i + 1 + 1 : Nat) : Int) ((i + 1 : Nat) : Int) = some (((o.length + 1 : Nat) : Int), M o.length) := ih
      simp only [laws_markIntS.l0]
      have hlen : (M i ++ o.drop i).length = o.length := by rw [List.length_append, M_length, List.length_drop]; omega
      have hset : (M i ++ o.drop i).set ((i : Int)).toNat ((i + 1 : Nat) : Int) = M (i + 1) ++ o.drop (i + 1) := by
        rw [show ((i : Int)).toNat = i by omega, drop_cons h, List.set_append_right _ _ (by rw [M_length]; exact Nat.le_refl _), M_length, Nat.sub_self, List.set_cons_zero, M_succ, List.append_assoc]; rfl
      have h1 : wrap64 (((i + 1 : Nat) : Int) + 1) = ((i + 1 + 1 : Nat) : Int) := by rw [w64 (by omega) (by omega)]; omega
      rw [hlen, if_pos (by omega), if_pos (by omega), hset, h1, wnext h (by omega), ih']) o.length 0 k (by omega) (by omega) (by omega)
  unfold laws_markIntS.f
  simpa [M] using this
theorem heldIntS_at (n : Nat) (hn : n ≤ 1000) (k : Nat) (hk : n + 10 < k) : laws_heldIntS.f k (M n) 1 = some ((n + 1 : Nat) : Int) := by
  have := loop_s (n := n) (m := 0) (s := 1) (by omega) (fun k i => laws_heldIntS.l0 k (M n) ((i + 1 : Nat) : Int) (i : Int) = some ((n + 1 : Nat) : Int))
    (fun k _ => by
      show laws_heldIntS.l0 (k + 1) (M n) ((n + 1 : Nat) : Int) (n : Int) = _
      simp only [laws_heldIntS.l0]
      rw [M_length, if_neg (by omega)])
    (fun k i h _ ih => by
      show laws_heldIntS.l0 (k + 1) (M n) ((i + 1 : Nat) : Int) (i : Int) = _
      have ih' : laws_heldIntS.l0 k (M n) ((i + 1 + 1 : Nat) : Int) ((i + 1 : Nat) : Int) = some ((n + 1 : Nat) : Int) := ih
      simp only [laws_heldIntS.l0]
      have h1 : wrap64 (((i + 1 : Nat) : Int) + 1) = ((i + 1 + 1 : Nat) : Int) := by rw [w64 (by omega) (by omega)]; omega
      rw [M_length, if_pos (by omega), if_pos (by omega), M_at h, if_pos rfl, h1, wnext h (by omega), ih']) n 0 k (by omega) (by omega) (by omega)
  unfold laws_heldIntS.f
  exact this
theorem eqIntS_refl (l : List Int) (hl : l.length ≤ 1048576) (k : Nat) (hk : l.length < k) : laws_eqIntS.f k l l = some true := by
  unfold laws_eqIntS.f
  rw [if_pos rfl]
  have := all_loop l (fun k i => laws_eqIntS.l0 k l l i) (fun _ => true) true 0 1 (by omega)
    (fun k _ => by simp only [laws_eqIntS.l0]; rw [if_neg (by omega)])
    (fun k i h _ => by
      simp only [laws_eqIntS.l0]
      rw [if_pos (by omega), if_pos (by omega), if_pos (by omega), wnext h (by omega)]) k (by omega)
  rw [this]; congr 1; simp [List.all_eq_true]
theorem FnExactFormNeeds : PureFnExactFormNeeds := by
  intro l kd hl hg _
  obtain ⟨k, hk⟩ : ∃ k : Nat, k = 67108864 := ⟨_, rfl⟩
  refine ⟨k + 1, ?_⟩
  obtain ⟨r, hr, h1, h2⟩ := szStepS_at l hl (fun x hx => (hg x hx).2.2.2.2) 1048576 (by omega) (k + 1) (by omega)
  unfold laws_FnExactFormNeeds.f
  rw [hr, bsome]
  by_cases h : r < 0
  · rw [if_pos h]
  rw [if_neg h]
  obtain ⟨h5, h6⟩ := szSteps_in (l := l) (n := 1048576) (by have := h2 (by omega); omega)
  have hb : (l.map cStep).length ≤ 1048576 := by simpa using h5
  have hto : ∀ q, 2097152 < q → laws_toStepS.f q l = some (l.map cStep) := fun q hq => toStepS_at l h5 q (by omega)
  rw [hto (k + 1) (by omega), bsome]
  generalize l.map cStep = f at *
  have hsp := spec_needs_f f kd hb h6 (k + 1) (by omega)
  have him : ∀ q, 33554432 < q → impl_FormNeeds.f q f kd = some (ndL f kd) := fun q hq => impl_needs_f f kd hb h6 q hq
  have ho := ndL_short f kd
  generalize ndL f kd = o at *
  obtain ⟨mk, l', em, hm⟩ := markStepS_at f (by omega) (k + 1) (by omega)
  have eqo : ∀ q, 1000 < q → laws_eqIntS.f q o o = some true := fun q hq => eqIntS_refl o (by omega) q (by omega)
  rw [hsp, bsome, bsome, him (k + 1) (by omega), bsome, eqo (k + 1) (by omega), bsome, if_pos rfl, bsome, eqStepS_refl f (by omega) (k + 1) (by omega), bsome, if_pos rfl, em, bsome]
  rw [if_neg (show ¬ (mk < 0) by omega)]
  have j0 : laws_FnExactFormNeeds.j0 (k + 1) l kd o o false = some true := by
    simp only [laws_FnExactFormNeeds.j0]
    rw [if_neg (by decide), markIntS_at o (by omega) k (by omega), bsome]
    show Option.bind (laws_heldIntS.f k (M o.length) 1) _ = _
    have hh := heldIntS_at o.length (by omega) k (by omega)
    rw [hh, bsome, if_neg (by omega), if_pos rfl, hto k (by omega), bsome, him k (by omega), bsome, eqo k (by omega), bsome, if_pos rfl]
    rw [bsome, if_neg (by omega), if_pos rfl]
  first
    | (rw [eqo (k + 1) (by omega), bsome]; exact j0)
    | exact j0

end Go.Proofs.Ytnbdofimiljeiaa.Pure
