/- The pure statement of the law 'FnFormNeeds': for every list of bytes the law's function returns true (no condition but that of the form: the list's length). -/
import Derived.Test.YtnbdofimiljeiaaQFnFormNeedsx8
namespace Go.Proofs.Ytnbdofimiljeiaa.Pure
open Go Go.RowKit Go.Proofs.Ytnbdofimiljeiaa.PFnFormNeeds Go.Proofs.YtnbdofimiljeiaaW.PrintWords Go.Proofs.YtnbdofimiljeiaaW.PrintLast
set_option linter.unusedVariables false
set_option linter.unusedSimpArgs false

theorem w64 {n : Int} (h1 : -9223372036854775808 ≤ n) (h2 : n ≤ 9223372036854775807) : wrap64 n = n := by
  unfold wrap64; omega
theorem wnext {i n : Nat} (h : i < n) (hn : n ≤ 4611686018427387904) : wrap64 ((i : Int) + 1) = ((i + 1 : Nat) : Int) := by
  rw [w64 (by omega) (by omega)]; omega
/-- A loop that goes up to n, by rounds. -/
theorem loop_up {n : Nat} (Q : Nat → Nat → Prop) (last : ∀ k, Q (k + 1) n) (step : ∀ k i, i < n → Q k (i + 1) → Q (k + 1) i) : ∀ k i, i ≤ n → n - i < k → Q k i := by
  intro k
  induction k with
  | zero => intro i _ h; omega
  | succ k ih =>
    intro i hi hk
    by_cases h : i = n
    · subst h; exact last k
    · exact step k i (by omega) (ih (i + 1) (by omega) (by omega))
theorem drop_at {α : Type} {l : List α} {i : Nat} (d : α) (h : i < l.length) : l.drop i = l.getD ((i : Int)).toNat d :: l.drop (i + 1) := by
  rw [List.drop_eq_getElem_cons h, List.getD_eq_getElem?_getD]
  simp [h]
theorem range_at {i n : Nat} (h : i < n) : List.range' i (n - i) = i :: List.range' (i + 1) (n - (i + 1)) := by
  rw [show n - i = (n - (i + 1)) + 1 by omega, List.range'_succ]
theorem range_end (n : Nat) : List.range' n (n - n) = [] := by simp
theorem bsome {α β : Type} (a : α) (f : α → Option β) : (some a).bind f = f a := by
  cases h : f a <;> simp [h]

theorem getD_at {α : Type} {l : List α} {i : Nat} (d : α) (h : i < l.length) : l.getD ((i : Int)).toNat d = l[i] := by
  simp [List.getD_eq_getElem?_getD, h]
theorem drop_cons {α : Type} {l : List α} {i : Nat} (h : i < l.length) : l.drop i = l[i] :: l.drop (i + 1) := List.drop_eq_getElem_cons h
/-- A loop that goes up to n, s rounds a turn, with m rounds to spare. -/
theorem loop_s {n m s : Nat} (hs : 0 < s) (Q : Nat → Nat → Prop) (last : ∀ k, m ≤ k → Q (k + 1) n) (step : ∀ k i, i < n → m ≤ k → Q k (i + 1) → Q (k + s) i) : ∀ d i k, n - i = d → i ≤ n → d * s + m < k → Q k i := by
  intro d
  induction d with
  | zero =>
    intro i k hd hi hk
    obtain rfl : i = n := by omega
    obtain ⟨k, rfl⟩ : ∃ q, k = q + 1 := ⟨k - 1, by omega⟩
    exact last k (by omega)
  | succ d ih =>
    intro i k hd hi hk
    rw [Nat.add_mul, Nat.one_mul] at hk
    obtain ⟨k, rfl⟩ : ∃ q, k = q + s := ⟨k - s, by omega⟩
    exact step k i (by omega) (by omega) (ih (i + 1) k (by omega) (by omega) (by omega))
/-- A loop that asks each element. -/
theorem all_loop {α : Type} (xs : List α) (F : Nat → Int → Option Bool) (p : α → Bool) (fin : Bool) (m s : Nat) (hs : 0 < s)
    (hend : ∀ k, m ≤ k → F (k + 1) (xs.length : Int) = some fin)
    (hstep : ∀ k i (h : i < xs.length), m ≤ k → F (k + s) (i : Int) = if p xs[i] = true then F k ((i + 1 : Nat) : Int) else some false) :
    ∀ k, xs.length * s + m < k → F k 0 = some (xs.all p && fin) := by
  intro k hk
  have := loop_s (n := xs.length) (m := m) (s := s) hs (fun k i => F k (i : Int) = some ((xs.drop i).all p && fin)) (fun k hm => by show F (k + 1) (xs.length : Int) = _; rw [hend k hm, List.drop_length]; rfl)
    (fun k i h hm ih => by
      show F (k + s) (i : Int) = _
      rw [hstep k i h hm, drop_cons h, List.all_cons]
      have ih' : F k ((i + 1 : Nat) : Int) = some ((xs.drop (i + 1)).all p && fin) := ih
      rw [ih']
      by_cases hp : p xs[i] = true <;> simp [hp]) xs.length 0 k (by omega) (by omega) hk
  simpa using this
/-- A loop that fills a new list with what a function makes of each element. -/
theorem map_loop {α β : Type} (xs : List α) (F : Nat → List β → Int → Option (List β)) (c : α → β) (z : β) (m s : Nat) (hs : 0 < s)
    (hend : ∀ k acc, m ≤ k → F (k + 1) acc (xs.length : Int) = some acc)
    (hstep : ∀ k (acc : List β) i (h : i < xs.length), m ≤ k → i < acc.length → F (k + s) acc (i : Int) = F k (acc.set i (c xs[i])) ((i + 1 : Nat) : Int)) :
    ∀ k, xs.length * s + m < k → F k (List.replicate xs.length z) 0 = some (xs.map c) := by
  intro k hk
  have := loop_s (n := xs.length) (m := m) (s := s) hs (fun k i => ∀ p : List β, p.length = i → F k (p ++ List.replicate (xs.length - i) z) (i : Int) = some (p ++ (xs.drop i).map c))
    (fun k hm p hp => by rw [hend k _ hm]; simp)
    (fun k i h hm ih p hp => by
      rw [hstep k _ i h hm (by simp; omega), show xs.length - i = (xs.length - (i + 1)) + 1 by omega, List.replicate_succ]
      have e : (p ++ z :: List.replicate (xs.length - (i + 1)) z).set i (c xs[i]) = (p ++ [c xs[i]]) ++ List.replicate (xs.length - (i + 1)) z := by
        subst hp; simp
      rw [e, ih (p ++ [c xs[i]]) (by simp [hp]), drop_cons h, List.map_cons, List.append_assoc]; rfl) xs.length 0 k (by omega) (by omega) hk [] rfl
  simpa using this
/-- A loop that takes the sizes of the elements off what is left. -/
theorem sz_loop {α : Type} (xs : List α) (F : Nat → Int → Int → Option Int) (sz : α → Nat) (m s : Nat) (hs : 0 < s)
    (hend : ∀ (k : Nat) (left : Int), m ≤ k → F (k + 1) left (xs.length : Int) = some left)
    (hstep : ∀ (k : Nat) (left : Int) (i : Nat) (h : i < xs.length), m ≤ k → 0 ≤ left → left ≤ 1048576 → ∃ t, t ≤ left ∧ (0 ≤ t → t = left - sz xs[i]) ∧ F (k + s) left (i : Int) = if t < 0 then some (-1) else F k t ((i + 1 : Nat) : Int)) :
    ∀ (k : Nat) (left : Int), xs.length * s + m < k → 0 ≤ left → left ≤ 1048576 → ∃ r, F k left 0 = some r ∧ r ≤ left ∧ (0 ≤ r → r = left - (xs.map sz).sum) := by
  intro k left hk h0 h1
  have := loop_s (n := xs.length) (m := m) (s := s) hs (fun k i => ∀ left : Int, 0 ≤ left → left ≤ 1048576 → ∃ r, F k left (i : Int) = some r ∧ r ≤ left ∧ (0 ≤ r → r = left - ((xs.drop i).map sz).sum))
    (fun k hm left h0 h1 => ⟨left, by rw [hend k _ hm], by omega, by simp⟩)
    (fun k i h hm ih left h0 h1 => by
      obtain ⟨t, t1, t2, t3⟩ := hstep k left i h hm h0 h1
      by_cases ht : t < 0
      · exact ⟨-1, by rw [t3, if_pos ht], by omega, by omega⟩
      · obtain ⟨r, r1, r2, r3⟩ := ih t (by omega) (by omega)
        refine ⟨r, by rw [t3, if_neg ht, r1], by omega, fun hr => ?_⟩
        rw [r3 hr, t2 (by omega), drop_cons h, List.map_cons, List.sum_cons]; omega) xs.length 0 k (by omega) (by omega) hk left h0 h1
  simpa using this
theorem sum_mem {α : Type} {xs : List α} {sz : α → Nat} {x : α} (h : x ∈ xs) : sz x ≤ (xs.map sz).sum := by
  induction xs with
  | nil => cases h
  | cons y ys ih =>
    rw [List.map_cons, List.sum_cons]
    rcases List.mem_cons.1 h with rfl | h
    · omega
    · have := ih h; omega

theorem within_at (a b c : Int) : impl_within.f a b c = some (decide (b ≤ a ∧ a ≤ c)) := by
  unfold impl_within.f
  by_cases h : a ≥ b
  · rw [if_pos h]; congr 1; exact decide_eq_decide.mpr ⟨fun x => ⟨h, x⟩, fun x => x.2⟩
  · rw [if_neg h]; congr 1; exact (decide_eq_false fun x => h x.1).symm

theorem inRange_at (a b c : Int) : spec_inRange.f a b c = some (decide (b ≤ a ∧ a ≤ c)) := by
  unfold spec_inRange.f
  by_cases h : a ≥ b
  · rw [if_pos h]; congr 1; exact decide_eq_decide.mpr ⟨fun x => ⟨h, x⟩, fun x => x.2⟩
  · rw [if_neg h]; congr 1; exact (decide_eq_false fun x => h x.1).symm

def Good (c : Int) : Prop := (97 ≤ c ∧ c ≤ 122) ∨ (48 ≤ c ∧ c ≤ 57) ∨ c = 32
instance (c : Int) : Decidable (Good c) := by unfold Good; exact inferInstance
def goodsFrom (s : ByteArray) (i : Nat) : Bool := (List.range' i (s.size - i)).all fun j => decide (Good (bt s j))
theorem goods_at {s : ByteArray} {i : Nat} (h : i < s.size) : goodsFrom s i = (decide (Good (bt s i)) && goodsFrom s (i + 1)) := by
  unfold goodsFrom; rw [range_at h]; rfl
theorem goods_end (s : ByteArray) : goodsFrom s s.size = true := by
  unfold goodsFrom; rw [range_end]; rfl
def wordOk (s : ByteArray) : Bool := goodsFrom s 0 && decide (s.size ≤ 12)
theorem impl_word_l (s : ByteArray) (hs : s.size ≤ 4611686018427387904) : ∀ k i, i ≤ s.size → s.size - i < k → impl_word.l0 k s (i : Int) = some (goodsFrom s i && decide (s.size ≤ 12)) := by
  refine loop_up (fun k i => impl_word.l0 k s (i : Int) = some (goodsFrom s i && decide (s.size ≤ 12))) ?_ ?_
  · intro k
    simp only [impl_word.l0]
    rw [if_neg (by omega), goods_end, Bool.true_and]
    congr 1; exact decide_eq_decide.mpr (by omega)
  · intro k i hi ih
    have e : impl_word.l0 (k + 1) s (i : Int) = if Good (bt s i) then impl_word.l0 k s (wrap64 ((i : Int) + 1)) else some false := by
      simp only [impl_word.l0]
      rw [if_pos (by omega), if_pos (by omega)]
      by_cases hg : Good (bt s i)
      · rw [if_pos hg]; unfold Good at hg
        repeat' split
        all_goals first
          | rfl
          | (exfalso; omega)
      · rw [if_neg hg]; unfold Good at hg
        repeat' split
        all_goals first
          | rfl
          | (exfalso; omega)
    rw [e, wnext hi hs, ih, goods_at hi]
    by_cases hg : Good (bt s i) <;> simp [hg]
theorem impl_word_at (s : ByteArray) (hs : s.size ≤ 4611686018427387904) (k : Nat) (hk : s.size < k) : impl_word.f k s = some (wordOk s) := by
  have := impl_word_l s hs k 0 (by omega) (by omega)
  unfold impl_word.f wordOk
  exact this

theorem plain_at (c : Int) : spec_plainByte.f c = some (decide (Good c)) := by
  unfold spec_plainByte.f
  by_cases hg : Good c
  · rw [decide_eq_true hg]; unfold Good at hg
    repeat' split
    all_goals first
      | rfl
      | (congr 1; exact beq_iff_eq.mpr (by omega))
      | (exfalso; omega)
  · rw [decide_eq_false hg]; unfold Good at hg
    repeat' split
    all_goals first
      | rfl
      | (congr 1; exact beq_eq_false_iff_ne.mpr (by omega))
      | (exfalso; omega)
theorem spec_word_l (s : ByteArray) (hs : s.size ≤ 4611686018427387904) : ∀ k i, i ≤ s.size → s.size - i < k → spec_validWord.l0 k s (i : Int) = some (goodsFrom s i) := by
  refine loop_up (fun k i => spec_validWord.l0 k s (i : Int) = some (goodsFrom s i)) ?_ ?_
  · intro k
    simp only [spec_validWord.l0]
    rw [if_neg (by omega), goods_end]
  · intro k i hi ih
    simp only [spec_validWord.l0]
    rw [if_pos (by omega), if_pos (by omega), plain_at, goods_at hi]
    simp only [Option.bind_some, wnext hi hs, ih]
    by_cases hg : Good (bt s i) <;> simp [hg]
theorem spec_word_at (s : ByteArray) (hs : s.size ≤ 4611686018427387904) (k : Nat) (hk : s.size < k) : spec_validWord.f k s = some (wordOk s) := by
  have := spec_word_l s hs k 0 (by omega) (by omega)
  unfold spec_validWord.f wordOk
  by_cases h : (s.size : Int) > 12
  · rw [if_pos h, show decide (s.size ≤ 12) = false from decide_eq_false (by omega), Bool.and_false]
  · rw [if_neg h, show decide (s.size ≤ 12) = true from decide_eq_true (by omega), Bool.and_true]; exact this

def vOk (a b : Int) (s : ByteArray) : Bool :=
  if a = 0 then (if b = 0 then s.toList == ([] : List UInt8) else false)
  else if a = 1 then (if -1000 ≤ b ∧ b ≤ 1000 then s.toList == ([] : List UInt8) else false)
  else if a = 2 then (if b = 0 then wordOk s else false) else false
theorem impl_valOk_at (a b : Int) (s : ByteArray) (hs : s.size ≤ 4611686018427387904) (k : Nat) (hk : s.size < k) : impl_ValOk.f k a b s = some (vOk a b s) := by
  unfold impl_ValOk.f vOk
  simp only [within_at, impl_word_at s hs k hk, Option.bind_some, decide_eq_true_eq]
  repeat' split
  all_goals rfl

theorem spec_val_at (a b : Int) (s : ByteArray) (hs : s.size ≤ 4611686018427387904) (k : Nat) (hk : s.size < k) : spec_validValue.f k a b s = some (vOk a b s) := by
  unfold spec_validValue.f vOk
  simp only [inRange_at, spec_word_at s hs k hk, Option.bind_some, decide_eq_true_eq]
  repeat' split
  all_goals rfl

def valZ (x : S51) : Bool := x.f2.f0 == 0 && (x.f2.f1 == 0 && (x.f2.f2.toList == ([] : List UInt8)))
/-- Is a step's number one that its kind has? -/
def numOk (x : S51) (p s t : Int) : Bool :=
  if x.f0 = 1 then decide (0 ≤ x.f1 ∧ x.f1 ≤ p - 1) else if x.f0 = 2 then decide (0 ≤ x.f1 ∧ x.f1 ≤ s - 1) else if x.f0 = 3 then decide (0 ≤ x.f1 ∧ x.f1 ≤ t - 1)
  else if x.f0 = 4 then decide (0 ≤ x.f1 ∧ x.f1 ≤ 1) else if x.f0 = 5 then decide (0 ≤ x.f1 ∧ x.f1 ≤ 6) else if x.f0 = 6 then decide (x.f1 = 0) else false
def stOk (x : S51) (p s t : Int) : Bool := if x.f0 = 0 then (decide (x.f1 = 0) && vOk x.f2.f0 x.f2.f1 x.f2.f2) else (valZ x && numOk x p s t)
def takesN (x : S51) : Int := if x.f0 = 5 then 2 else if x.f0 = 6 then 3 else 0
def fits (p s t : Int) : List S51 → Int → Bool
  | [], n => n == 1
  | x :: xs, n => if stOk x p s t = true ∧ takesN x ≤ n then fits p s t xs (n - takesN x + 1) else false
def formOk (l : List S51) (p s t : Int) : Bool := fits p s t l 0 && decide (l.length ≤ 9)
theorem takesN_in (x : S51) : 0 ≤ takesN x ∧ takesN x ≤ 3 := by
  unfold takesN
  repeat' split
  all_goals omega
theorem rd_step {l : List S51} {i : Nat} (h : i < l.length) : rd_T51 l (i : Int) = l[i] := getD_at z51 h

theorem takes_at (x : S51) : spec_takes.f x.f0 x.f1 x.f2.f0 x.f2.f1 x.f2.f2 = some (takesN x) := by
  unfold spec_takes.f takesN; repeat' split
  all_goals rfl
theorem validStep_at' (x : S51) (p s t : Int) (hp : 0 ≤ p ∧ p ≤ 1000) (hq : 0 ≤ s ∧ s ≤ 1000) (ht : 0 ≤ t ∧ t ≤ 1000) (hs : x.f2.f2.size ≤ 4611686018427387904) (k : Nat) (hk : x.f2.f2.size < k) :
    spec_validStep.f k x.f0 x.f1 x.f2.f0 x.f2.f1 x.f2.f2 p s t = some (stOk x p s t) := by
  unfold spec_validStep.f stOk numOk
  rw [w64 (n := p - 1) (by omega) (by omega), w64 (n := s - 1) (by omega) (by omega), w64 (n := t - 1) (by omega) (by omega)]
  simp only [inRange_at, spec_val_at _ _ _ hs k hk, bsome]
  have hz : (x.f2.f0 == 0 && (x.f2.f1 == 0 && (x.f2.f2.toList == ([] : List UInt8)))) = valZ x := rfl
  rw [hz]
  by_cases e0 : x.f0 = 0
  · rw [if_pos e0, if_pos e0]
    by_cases e : x.f1 = 0 <;> simp [e]
  rw [if_neg e0, if_neg e0]
  have fin : ∀ b : Bool, (if b = true then some (valZ x) else some false) = some (valZ x && b) := by intro b; cases b <;> simp
  by_cases e1 : x.f0 = 1
  · rw [if_pos e1, if_pos e1, fin]
  rw [if_neg e1, if_neg e1]
  by_cases e2 : x.f0 = 2
  · rw [if_pos e2, if_pos e2, fin]
  rw [if_neg e2, if_neg e2]
  by_cases e3 : x.f0 = 3
  · rw [if_pos e3, if_pos e3, fin]
  rw [if_neg e3, if_neg e3]
  by_cases e4 : x.f0 = 4
  · rw [if_pos e4, if_pos e4, fin]
  rw [if_neg e4, if_neg e4]
  by_cases e5 : x.f0 = 5
  · rw [if_pos e5, if_pos e5, fin]
  rw [if_neg e5, if_neg e5]
  by_cases e6 : x.f0 = 6
  · rw [if_pos e6, if_pos e6]
    by_cases e : x.f1 = 0 <;> simp [e]
  rw [if_neg e6, if_neg e6]; simp
theorem spec_form_at (l : List S51) (p s t : Int) (hp : 0 ≤ p ∧ p ≤ 1000) (hq : 0 ≤ s ∧ s ≤ 1000) (ht : 0 ≤ t ∧ t ≤ 1000) (hl : l.length ≤ 2097152) (m : Nat) (hm : ∀ x ∈ l, x.f2.f2.size < m) (hm' : m ≤ 4611686018427387904) (k : Nat) (hk : l.length + m < k) :
    spec_validForm.f k l p s t = some (formOk l p s t) := by
  have key := loop_s (n := l.length) (m := m) (s := 1) (by omega) (fun k i => ∀ n : Int, 0 ≤ n → n ≤ i → spec_validForm.l0 k l p s t n (i : Int) = some (fits p s t (l.drop i) n))
    (fun k _ n h0 h1 => by simp only [spec_validForm.l0]; rw [if_neg (by omega), List.drop_length]; rfl)
    (fun k i h hk ih n h0 h1 => by
      have hx := hm _ (List.getElem_mem h)
      simp only [spec_validForm.l0]
      rw [if_pos (by omega), if_pos (by omega), rd_step h, drop_cons h]
      generalize l[i] = x at *
      simp only [validStep_at' x p s t hp hq ht (by omega) k (by omega), takes_at, bsome]
      have ht := takesN_in x
      rw [w64 (n := n - takesN x) (by omega) (by omega), w64 (n := n - takesN x + 1) (by omega) (by omega), wnext h (by omega)]
      unfold fits
      cases hst : stOk x p s t
      · simp
      · simp only [if_true, true_and]
        by_cases hn : n < takesN x
        · rw [if_pos hn, if_neg (by omega)]
        · rw [if_neg hn, if_pos (by omega)]; exact ih _ (by omega) (by omega)) l.length 0 k (by omega) (by omega) (by omega) 0 (by omega) (by omega)
  unfold spec_validForm.f formOk
  by_cases h : (l.length : Int) > 9
  · rw [if_pos h, show decide (l.length ≤ 9) = false from decide_eq_false (by omega), Bool.and_false]
  · rw [if_neg h, show decide (l.length ≤ 9) = true from decide_eq_true (by omega), Bool.and_true]; exact key

theorem impl_form_at (l : List S51) (p s t : Int) (hp : 0 ≤ p ∧ p ≤ 1000) (hq : 0 ≤ s ∧ s ≤ 1000) (ht : 0 ≤ t ∧ t ≤ 1000) (hl : l.length ≤ 2097152) (m : Nat) (hm : ∀ x ∈ l, x.f2.f2.size < m) (hm' : m ≤ 4611686018427387904) (k : Nat) (hk : l.length * 2 + m < k) :
    impl_formFits.f k l p s t = some (formOk l p s t) := by
  have key := loop_s (n := l.length) (m := m) (s := 2) (by omega) (fun k i => ∀ n : Int, 0 ≤ n → n ≤ i → impl_formFits.l0 k l p s t n l (l.length : Int) (i : Int) = some (fits p s t (l.drop i) n && decide (l.length ≤ 9)))
    (fun k _ n h0 h1 => by
      simp only [impl_formFits.l0]; rw [if_neg (by omega), List.drop_length]
      unfold fits
      by_cases e : n = 1
      · rw [if_pos e, e]; simp; omega
      · rw [if_neg e]; simp [e])
    (fun k i h hk ih n h0 h1 => by
      have hx := hm _ (List.getElem_mem h)
      simp only [impl_formFits.l0]
      rw [if_pos (by omega), if_pos (by omega), if_pos (by omega), rd_step h, drop_cons h]
      generalize l[i] = x at *
      simp only [impl_formFits.j1, within_at, impl_valOk_at _ _ _ (show x.f2.f2.size ≤ 4611686018427387904 by omega) k (by omega), bsome, wnext h (show l.length ≤ 4611686018427387904 by omega)]
      rw [w64 (n := p - 1) (by omega) (by omega), w64 (n := s - 1) (by omega) (by omega), w64 (n := t - 1) (by omega) (by omega), w64 (n := n + (1 - 0)) (by omega) (by omega), w64 (n := n + (1 - 2)) (by omega) (by omega), w64 (n := n + (1 - 3)) (by omega) (by omega)]
      have hz : (!(x.f2.f0 == 0) || (!(x.f2.f1 == 0) || (!(x.f2.f2.toList == ([] : List UInt8))))) = !valZ x := by unfold valZ; rw [Bool.not_and, Bool.not_and]
      rw [hz]
      have step : ∀ (b : Bool) (c : Int), takesN x = c → (stOk x p s t = b) → (if b = true then (if n < c then some false else impl_formFits.l0 k l p s t (n + (1 - c)) l (l.length : Int) ((i + 1 : Nat) : Int)) else some false) = some (fits p s t (x :: l.drop (i + 1)) n && decide (l.length ≤ 9)) := by
        intro b c hc hb
        subst hc; subst hb
        have ht := takesN_in x
        unfold fits
        cases hst : stOk x p s t
        · simp
        · simp only [if_true, true_and]
          by_cases hn : n < takesN x
          · rw [if_pos hn, if_neg (by omega)]; simp
          · rw [if_neg hn, if_pos (by omega), show n + (1 - takesN x) = n - takesN x + 1 by omega]; exact ih _ (by omega) (by omega)
      by_cases e0 : x.f0 = 0
      · rw [if_pos e0, if_neg (by simp), if_pos e0]
        rw [← step (decide (x.f1 = 0) && vOk x.f2.f0 x.f2.f1 x.f2.f2) 0 (by unfold takesN; rw [if_neg (by omega), if_neg (by omega)]) (by unfold stOk; rw [if_pos e0])]
        by_cases e : x.f1 = 0 <;> simp [e]
      rw [if_neg e0]
      cases hv : valZ x with
      | false =>
        rw [if_pos (show (!false) = true from rfl)]
        have : stOk x p s t = false := by unfold stOk; rw [if_neg e0, hv]; rfl
        rw [← step false (takesN x) rfl this]; simp
      | true =>
        rw [if_neg (by simp), if_neg e0]
        have hst : stOk x p s t = numOk x p s t := by unfold stOk; rw [if_neg e0, hv]; rfl
        by_cases e1 : x.f0 = 1
        · rw [if_pos e1]; exact step _ 0 (by unfold takesN; rw [if_neg (by omega), if_neg (by omega)]) (by rw [hst]; unfold numOk; rw [if_pos e1])
        rw [if_neg e1]
        by_cases e2 : x.f0 = 2
        · rw [if_pos e2]; exact step _ 0 (by unfold takesN; rw [if_neg (by omega), if_neg (by omega)]) (by rw [hst]; unfold numOk; rw [if_neg e1, if_pos e2])
        rw [if_neg e2]
        by_cases e3 : x.f0 = 3
        · rw [if_pos e3]; exact step _ 0 (by unfold takesN; rw [if_neg (by omega), if_neg (by omega)]) (by rw [hst]; unfold numOk; rw [if_neg e1, if_neg e2, if_pos e3])
        rw [if_neg e3]
        by_cases e4 : x.f0 = 4
        · rw [if_pos e4]; exact step _ 0 (by unfold takesN; rw [if_neg (by omega), if_neg (by omega)]) (by rw [hst]; unfold numOk; rw [if_neg e1, if_neg e2, if_neg e3, if_pos e4])
        rw [if_neg e4]
        by_cases e5 : x.f0 = 5
        · rw [if_pos e5]; exact step _ 2 (by unfold takesN; rw [if_pos e5]) (by rw [hst]; unfold numOk; rw [if_neg e1, if_neg e2, if_neg e3, if_neg e4, if_pos e5])
        rw [if_neg e5]
        by_cases e6 : x.f0 = 6
        · rw [if_pos e6, ← step (decide (x.f1 = 0)) 3 (by unfold takesN; rw [if_neg e5, if_pos e6]) (by rw [hst]; unfold numOk; rw [if_neg e1, if_neg e2, if_neg e3, if_neg e4, if_neg e5, if_pos e6])]
          by_cases e : x.f1 = 0 <;> simp [e]
        rw [if_neg e6]
        rw [← step false (takesN x) rfl (by rw [hst]; unfold numOk; rw [if_neg e1, if_neg e2, if_neg e3, if_neg e4, if_neg e5, if_neg e6])]; simp) l.length 0 k (by omega) (by omega) (by omega) 0 (by omega) (by omega)
  unfold impl_formFits.f formOk
  exact key


/-- A source of draws: its bytes are bytes, and no more than 8000 of them are taken. -/
def Src (l : List Int) (a f : Int) : Prop := (∀ x ∈ l, 0 ≤ x ∧ x ≤ 255) ∧ 0 ≤ a ∧ 0 ≤ f ∧ a + 2 * f ≤ 8000

theorem rd_in {l : List Int} {i : Int} (h0 : 0 ≤ i) (h1 : i < (l.length : Int)) : rd l i ∈ l := by
  have h : i.toNat < l.length := by omega
  unfold rd
  rw [List.getD_eq_getElem?_getD, List.getElem?_eq_getElem h]
  exact List.getElem_mem h

theorem pick_tells {l : List Int} {a f : Int} (n : Int) (h : Src l a f) (k : Nat) (hk : 0 < k) :
    ∃ v a' f', spec_source_pick.f k l a f n = some (v, a', f') ∧ 0 ≤ v ∧ (v < n ∨ v = 0) ∧ Src l a' f' := by
  obtain ⟨hb, ha, hf, haf⟩ := h
  obtain ⟨k, rfl⟩ : ∃ m, k = m + 1 := ⟨k - 1, by omega⟩
  have stop : ∃ v a' f', spec_source_pick.j0 (k + 1) n true l a f = some (v, a', f') ∧ 0 ≤ v ∧ (v < n ∨ v = 0) ∧ Src l a' f' :=
    ⟨0, a, f, by simp [spec_source_pick.j0], by omega, Or.inr rfl, hb, ha, hf, haf⟩
  unfold spec_source_pick.f
  by_cases h1 : n ≤ 1
  · rw [if_pos h1]; exact stop
  rw [if_neg h1]
  by_cases h2 : f ≤ 0
  · rw [if_pos h2]; exact stop
  rw [if_neg h2]
  by_cases h3 : (l.length : Int) = 0
  · rw [show ((l.length : Int) == 0) = true from beq_iff_eq.mpr h3]; exact stop
  rw [show ((l.length : Int) == 0) = false from beq_eq_false_iff_ne.mpr h3]
  have hl : 0 < (l.length : Int) := by omega
  have m0 : 0 ≤ Int.tmod a (l.length : Int) := Int.tmod_nonneg _ ha
  have m1 : Int.tmod a (l.length : Int) < (l.length : Int) := Int.tmod_lt_of_pos _ hl
  have q0 : 0 ≤ Int.tdiv a (l.length : Int) := Int.tdiv_nonneg ha (by omega)
  have q1 : Int.tdiv a (l.length : Int) ≤ 8000 := by
    rw [Int.tdiv_eq_ediv_of_nonneg ha]
    have := Int.ediv_le_self (l.length : Int) ha
    omega
  have v0 := hb _ (rd_in m0 m1)
  simp only [spec_source_pick.j0]
  rw [if_neg (by simp), if_neg h3, if_pos m0, if_pos m1]
  generalize Int.tdiv a (l.length : Int) = q at *
  generalize rd l (Int.tmod a (l.length : Int)) = x at *
  rw [w64 (n := a + 1) (by omega) (by omega), w64 (n := f - 1) (by omega) (by omega), w64 (n := x) (by omega) (by omega),
    w64 (n := q) (by omega) (by omega), w64 (n := q * 31) (by omega) (by omega), w64 (n := x + q * 31) (by omega) (by omega)]
  by_cases h4 : n > 256
  · have m0' : 0 ≤ Int.tmod (a + 1) (l.length : Int) := Int.tmod_nonneg _ (by omega)
    have m1' : Int.tmod (a + 1) (l.length : Int) < (l.length : Int) := Int.tmod_lt_of_pos _ hl
    have v1 := hb _ (rd_in m0' m1')
    generalize rd l (Int.tmod (a + 1) (l.length : Int)) = y at *
    rw [if_pos h4, if_pos m0', if_pos m1', if_neg (by omega), w64 (n := y) (by omega) (by omega),
      w64 (n := (x + q * 31) * 256) (by omega) (by omega), w64 (n := (x + q * 31) * 256 + y) (by omega) (by omega),
      w64 (n := a + 1 + 1) (by omega) (by omega)]
    exact ⟨_, _, _, rfl, Int.tmod_nonneg _ (by omega), Or.inl (Int.tmod_lt_of_pos _ (by omega)), hb, by omega, by omega, by omega⟩
  · rw [if_neg h4, if_neg (by omega)]
    exact ⟨_, _, _, rfl, Int.tmod_nonneg _ (by omega), Or.inl (Int.tmod_lt_of_pos _ (by omega)), hb, by omega, by omega, by omega⟩

theorem src_new {l : List Int} (h : ∀ x ∈ l, (Lit.int .u8 x).wf = true) : Src l 0 4000 := by
  refine ⟨fun x hx => ?_, by omega, by omega, by omega⟩
  have := h x hx
  simp only [Lit.wf, IntKind.min, IntKind.max, IntKind.signed, IntKind.bits, Bool.and_eq_true, decide_eq_true_eq] at this
  simp at this
  omega

theorem one_tells {l : List Int} {a f : Int} (l1 : List Int) (hl : l1 ≠ []) (h : Src l a f) (k : Nat) (hk : 0 < k) :
    ∃ v a' f', spec_source_one.f k l a f l1 = some (v, a', f') ∧ v ∈ l1 ∧ Src l a' f' := by
  obtain ⟨v, a', f', he, h0, h1, hs⟩ := pick_tells (l1.length : Int) h k hk
  have hp : 0 < (l1.length : Int) := by
    have := List.length_pos_iff.mpr hl
    omega
  have hv : v < (l1.length : Int) := by omega
  refine ⟨rd l1 v, a', f', ?_, rd_in h0 hv, hs⟩
  unfold spec_source_one.f
  rw [he]; simp only [Option.bind_some]
  rw [if_pos h0, if_pos hv]

theorem rarely_tells {l : List Int} {a f : Int} (h : Src l a f) (k : Nat) (hk : 0 < k) : ∃ v a' f', spec_source_rarely.f k l a f = some (v, a', f') ∧ Src l a' f' := by
  obtain ⟨v, a', f', he, -, -, hs⟩ := pick_tells 40 h k hk
  refine ⟨(v == 1), a', f', ?_, hs⟩
  unfold spec_source_rarely.f
  rw [he, bsome]

theorem rdOf_in {α : Type} {d : α} {l : List α} {i : Int} (h0 : 0 ≤ i) (h1 : i < (l.length : Int)) : rdOf d l i ∈ l := by
  have h : i.toNat < l.length := by omega
  unfold rdOf
  rw [List.getD_eq_getElem?_getD, List.getElem?_eq_getElem h]
  exact List.getElem_mem h
theorem size_append (a b : ByteArray) : (a ++ b).size = a.size + b.size := ByteArray.size_append
theorem text_l {l : List Int} : ∀ (n k : Nat) (acc : ByteArray) (a f : Int), Src l a f → n + 1 < k → acc.size + 4 * n ≤ 1000 → ∃ r a' f', spec_source_text.l0 k acc (n : Int) l a f = some (r, a', f') ∧ r.size ≤ acc.size + 4 * n + 1 ∧ Src l a' f' := by
  intro n
  induction n with
  | zero =>
    intro k acc a f h hk hn
    obtain ⟨k, rfl⟩ : ∃ m, k = m + 1 := ⟨k - 1, by omega⟩
    simp only [spec_source_text.l0]
    rw [if_neg (by omega)]
    obtain ⟨v, a1, f1, e1, s1⟩ := rarely_tells h k (by omega)
    rw [e1, bsome]
    cases v with
    | true =>
      rw [if_pos rfl, if_pos (by omega)]
      exact ⟨_, _, _, rfl, by rw [size_append]; exact Nat.le_refl _, s1⟩
    | false =>
      rw [if_neg (by simp)]
      exact ⟨_, _, _, rfl, by omega, s1⟩
  | succ n ih =>
    intro k acc a f h hk hn
    obtain ⟨k, rfl⟩ : ∃ m, k = m + 1 := ⟨k - 1, by omega⟩
    simp only [spec_source_text.l0]
    rw [if_pos (by omega), bsome]
    obtain ⟨u1, a1, f1, e1, p1, q1, s1⟩ := pick_tells 6 h k (by omega)
    rw [e1, bsome]
    generalize hy : ([(⟨#[97]⟩ : ByteArray), (⟨#[98]⟩ : ByteArray), (⟨#[122, 57]⟩ : ByteArray), (⟨#[32]⟩ : ByteArray), (⟨#[48]⟩ : ByteArray), (⟨#[108, 111, 110, 103]⟩ : ByteArray)] : List ByteArray) = y
    have hyl : y.length = 6 := by subst hy; rfl
    have hys : ∀ b ∈ y, b.size ≤ 4 := by
      subst hy
      intro b hb
      simp only [List.mem_cons, List.not_mem_nil, or_false] at hb
      rcases hb with rfl | rfl | rfl | rfl | rfl | rfl <;> decide
    have hu : u1 < (y.length : Int) := by omega
    have hb := hys _ (rdOf_in (d := ByteArray.empty) p1 hu)
    rw [if_pos p1, if_pos hu]
    generalize rdOf ByteArray.empty y u1 = b at *
    rw [if_pos (by omega), w64 (by omega) (by omega), show ((n + 1 : Nat) : Int) - 1 = (n : Int) by omega]
    obtain ⟨r, a', f', er, hr, sr⟩ := ih k (acc ++ b) a1 f1 s1 (by omega) (by rw [size_append]; omega)
    exact ⟨r, a', f', er, by rw [size_append] at hr; omega, sr⟩
theorem text_tells {l : List Int} {a f : Int} (h : Src l a f) (k : Nat) (hk : 10 < k) : ∃ r a' f', spec_source_text.f k l a f = some (r, a', f') ∧ r.size ≤ 20 ∧ Src l a' f' := by
  unfold spec_source_text.f
  obtain ⟨v1, a1, f1, e1, p1, q1, s1⟩ := pick_tells 4 h k (by omega)
  rw [e1, bsome]
  obtain ⟨r, a3, f3, e3, h3, s3⟩ := text_l v1.toNat k (⟨#[]⟩ : ByteArray) a1 f1 s1 (by omega) (by show 0 + 4 * v1.toNat ≤ 1000; omega)
  rw [show ((v1.toNat : Nat) : Int) = v1 by omega] at e3
  refine ⟨r, a3, f3, e3, ?_, s3⟩
  have h0 : (⟨#[]⟩ : ByteArray).size = 0 := rfl
  omega
theorem value_tells {l : List Int} {a f : Int} (h : Src l a f) (k : Nat) (hk : 10 < k) : ∃ x y z a' f', spec_source_value.f k l a f = some (x, y, z, a', f') ∧ z.size ≤ 20 ∧ (-1001 ≤ y ∧ y ≤ 1001) ∧ (0 ≤ x ∧ x ≤ 2) ∧ Src l a' f' := by
  unfold spec_source_value.f
  obtain ⟨v1, a1, f1, e1, p1, q1, s1⟩ := pick_tells 6 h k (by omega)
  rw [e1, bsome]
  have h0 : (⟨#[]⟩ : ByteArray).size ≤ 20 := by decide
  by_cases c0 : v1 = 0
  · rw [if_pos c0]; exact ⟨_, _, _, _, _, rfl, h0, by omega, by omega, s1⟩
  rw [if_neg c0]
  by_cases c1 : v1 = 1
  · rw [if_pos c1]
    obtain ⟨r, a2, f2, e2, h2, s2⟩ := text_tells s1 k hk
    rw [e2, bsome]; exact ⟨_, _, _, _, _, rfl, h2, by omega, by omega, s2⟩
  rw [if_neg c1]
  by_cases c2 : v1 = 2
  · rw [if_pos c2]
    obtain ⟨v2, a2, f2, e2, m2, s2⟩ := one_tells [0, 1, -1, 1000, -1000, 500, 1001] (by simp) s1 k (by omega)
    rw [e2, bsome]
    refine ⟨_, _, _, _, _, rfl, h0, ?_, by omega, s2⟩
    simp at m2; omega
  rw [if_neg c2]
  obtain ⟨v2, a2, f2, e2, p2, q2, s2⟩ := pick_tells 6 s1 k (by omega)
  rw [e2, bsome]
  refine ⟨_, _, _, _, _, rfl, h0, ?_, by omega, s2⟩
  rw [w64 (by omega) (by omega)]; omega

theorem good_tells {l : List Int} {a f : Int} (h : Src l a f) (k : Nat) (hk : 30 < k) : ∃ x y z a' f', spec_source_good.f k l a f = some (x, y, z, a', f') ∧ z.size ≤ 20 ∧ (-1001 ≤ y ∧ y ≤ 1001) ∧ (0 ≤ x ∧ x ≤ 2) ∧ Src l a' f' := by
  unfold spec_source_good.f
  obtain ⟨x, y, z, a1, f1, e1, h1, h2, h3, s1⟩ := value_tells h k (by omega)
  rw [e1, bsome, spec_val_at x y z (by omega) k (by omega), bsome]
  have h0 : (⟨#[]⟩ : ByteArray).size ≤ 20 := by decide
  split
  · exact ⟨_, _, _, _, _, rfl, h1, h2, h3, s1⟩
  · exact ⟨_, _, _, _, _, rfl, h0, by omega, by omega, s1⟩

theorem leaf_tells {l : List Int} {a f : Int} (p s t : Int) (h : Src l a f) (k : Nat) (hk : 31 < k) : ∃ c d x y z a' f', spec_source_leaf.f k l a f p s t = some (c, d, x, y, z, a', f') ∧ z.size ≤ 20 ∧ Src l a' f' := by
  have h0 : (⟨#[]⟩ : ByteArray).size ≤ 20 := by decide
  have hj : ∀ (k : Nat) (a f c : Int) (b : Bool), 31 < k → Src l a f → ∃ e d x y z a' f', spec_source_leaf.j0 k p s t c b l a f = some (e, d, x, y, z, a', f') ∧ z.size ≤ 20 ∧ Src l a' f' := by
    intro k a f c b hk h
    obtain ⟨k, rfl⟩ : ∃ m, k = m + 1 := ⟨k - 1, by omega⟩
    obtain ⟨x, y, z, a1, f1, e1, g1, -, -, s1⟩ := good_tells h k (by omega)
    simp only [spec_source_leaf.j0]
    cases b with
    | true =>
      rw [if_pos rfl]
      by_cases c0 : s > 0
      · obtain ⟨v, a2, f2, e2, -, -, s2⟩ := pick_tells s h k (by omega)
        rw [if_pos c0, e2, bsome]; exact ⟨_, _, _, _, _, _, _, rfl, h0, s2⟩
      · rw [if_neg c0, e1, bsome]; exact ⟨_, _, _, _, _, _, _, rfl, g1, s1⟩
    | false =>
      rw [if_neg (by simp)]
      by_cases c2 : c = 2
      · rw [if_pos c2]
        by_cases c0 : p > 0
        · obtain ⟨v, a2, f2, e2, -, -, s2⟩ := pick_tells p h k (by omega)
          rw [if_pos c0, e2, bsome]; exact ⟨_, _, _, _, _, _, _, rfl, h0, s2⟩
        · rw [if_neg c0, e1, bsome]; exact ⟨_, _, _, _, _, _, _, rfl, g1, s1⟩
      rw [if_neg c2]
      by_cases c3 : c = 3
      · rw [if_pos c3]
        by_cases c0 : t > 0
        · obtain ⟨v, a2, f2, e2, -, -, s2⟩ := pick_tells t h k (by omega)
          rw [if_pos c0, e2, bsome]; exact ⟨_, _, _, _, _, _, _, rfl, h0, s2⟩
        · rw [if_neg c0, e1, bsome]; exact ⟨_, _, _, _, _, _, _, rfl, g1, s1⟩
      rw [if_neg c3]
      by_cases c4 : c = 4
      · rw [if_pos c4]
        obtain ⟨v, a2, f2, e2, -, -, s2⟩ := pick_tells 2 h k (by omega)
        rw [e2, bsome]; exact ⟨_, _, _, _, _, _, _, rfl, h0, s2⟩
      · rw [if_neg c4, e1, bsome]; exact ⟨_, _, _, _, _, _, _, rfl, g1, s1⟩
  unfold spec_source_leaf.f
  obtain ⟨v, a1, f1, e1, -, -, s1⟩ := pick_tells 7 h k (by omega)
  rw [e1, bsome]
  split
  · exact hj k _ _ _ _ hk s1
  · exact hj k _ _ _ _ hk s1
def Fm (l : List S51) (n : Nat) : Prop := 1 ≤ l.length ∧ l.length ≤ n ∧ ∀ x ∈ l, x.f2.f2.size ≤ 20
theorem form_tells {l : List Int} (p s t : Int) : ∀ (d : Nat) (n : Int) (k : Nat) (a f : Int), n ≤ d → d ≤ 100 → 3 * d + 40 < k → Src l a f → ∃ r a' f', spec_source_form.f k l a f p s t n = some (r, a', f') ∧ Fm r (3 * d + 1) ∧ Src l a' f' := by
  have leaf : ∀ (n : Int) (k : Nat) (a f : Int) (m : Nat), 1 ≤ m → 36 < k → Src l a f → ∃ r a' f', spec_source_form.j0 k p s t n true l a f = some (r, a', f') ∧ Fm r m ∧ Src l a' f' := by
    intro n k a f m hm hk h
    obtain ⟨k, rfl⟩ : ∃ m, k = m + 1 := ⟨k - 1, by omega⟩
    simp only [spec_source_form.j0]
    obtain ⟨c, e, x, y, z, a1, f1, e1, g1, s1⟩ := leaf_tells p s t h k (by omega)
    rw [if_pos trivial, e1, bsome]
    refine ⟨_, _, _, rfl, ⟨by simp, by simpa using hm, ?_⟩, s1⟩
    intro q hq
    rw [List.mem_singleton.1 hq]; exact g1
  have small : ∀ (n : Int) (k : Nat) (a f : Int) (m : Nat), n < 3 → 1 ≤ m → 40 < k → Src l a f → ∃ r a' f', spec_source_form.f k l a f p s t n = some (r, a', f') ∧ Fm r m ∧ Src l a' f' := by
    intro n k a f m hn hm hk h
    obtain ⟨k, rfl⟩ : ∃ m, k = m + 1 := ⟨k - 1, by omega⟩
    simp only [spec_source_form.f]
    rw [if_pos hn]
    exact leaf n k a f m hm (by omega) h
  have cat : ∀ (x y : List S51) (m n : Nat), Fm x m → Fm y n → Fm (x ++ y) (m + n) := by
    rintro x y m n ⟨x1, x2, x3⟩ ⟨y1, y2, y3⟩
    refine ⟨by simp; omega, by simp; omega, fun q hq => ?_⟩
    rcases List.mem_append.1 hq with hq | hq
    · exact x3 q hq
    · exact y3 q hq
  have one : ∀ (c e : Int), Fm [(⟨c, e, (⟨0, 0, (⟨#[]⟩ : ByteArray)⟩ : S49)⟩ : S51)] 1 := by
    intro c e
    refine ⟨by simp, by simp, fun q hq => ?_⟩
    rw [List.mem_singleton.1 hq]; show (⟨#[]⟩ : ByteArray).size ≤ 20; decide
  intro d
  induction d using Nat.strongRecOn with
  | ind d ih =>
    intro n k a f hn hd hk h
    by_cases h3 : n < 3
    · exact small n k a f _ h3 (by omega) (by omega) h
    obtain ⟨k, rfl⟩ : ∃ m, k = m + 3 := ⟨k - 3, by omega⟩
    have hd3 : 3 ≤ d := by omega
    obtain ⟨v, a1, f1, e1, -, -, s1⟩ := pick_tells 2 h (k + 2) (by omega)
    rw [show k + 3 = (k + 2) + 1 from rfl]
    simp only [spec_source_form.f]
    rw [if_neg h3, e1, bsome]
    cases hv : (v == 0) with
    | true => exact leaf n (k + 2) a1 f1 _ (by omega) (by omega) s1
    | false =>
      have j1 : ∀ (b : Bool) (a f : Int), Src l a f → (b = true → 3 < n) → ∃ r a' f', spec_source_form.j1 (k + 1) p s t n b l a f = some (r, a', f') ∧ Fm r (3 * d + 1) ∧ Src l a' f' := by
        intro b a f h hb
        simp only [spec_source_form.j1]
        obtain ⟨r1, a1, f1, e1, m1, s1⟩ := small 1 k a f 1 (by omega) (by omega) (by omega) h
        cases b with
        | true =>
          have := hb rfl
          rw [if_pos rfl, e1, bsome]
          obtain ⟨r2, a2, f2, e2, m2, s2⟩ := small 1 k a1 f1 1 (by omega) (by omega) (by omega) s1
          rw [e2, bsome, w64 (by omega) (by omega)]
          obtain ⟨r3, a3, f3, e3, m3, s3⟩ := ih (d - 3) (by omega) (n - 3) k a2 f2 (by omega) (by omega) (by omega) s2
          rw [e3, bsome]
          have c1 := cat _ _ _ _ m1 m2
          have c2 := cat _ _ _ _ c1 m3
          have c3 := cat _ _ _ _ c2 (one 6 0)
          have l1 := m1.2.1; have l2 := m2.2.1; have l3 := m3.2.1; have l4 := c1.2.1; have l5 := c2.2.1
          rw [if_pos (by show r1.length + r2.length < 2932031007402; omega), bsome, if_pos (by show (r1 ++ r2).length + r3.length < 2932031007402; omega), bsome, if_pos (by show (r1 ++ r2 ++ r3).length < 2932031007402; omega)]
          have c4 : Fm _ (3 * d + 1) := ⟨c3.1, by have := c3.2.1; omega, c3.2.2⟩
          exact ⟨_, _, _, rfl, c4, s3⟩
        | false =>
          rw [if_neg (by simp), e1, bsome, w64 (by omega) (by omega)]
          obtain ⟨r3, a3, f3, e3, m3, s3⟩ := ih (d - 2) (by omega) (n - 2) k a1 f1 (by omega) (by omega) (by omega) s1
          rw [e3, bsome]
          have c2 := cat _ _ _ _ m1 m3
          have l1 := m1.2.1; have l3 := m3.2.1; have l5 := c2.2.1
          rw [if_pos (by show r1.length + r3.length < 2932031007402; omega), bsome]
          obtain ⟨v, a4, f4, e4, -, -, s4⟩ := pick_tells 7 s3 k (by omega)
          rw [e4, bsome, if_pos (by show (r1 ++ r3).length < 2932031007402; omega)]
          have c3 := cat _ _ _ _ c2 (one 5 v)
          have c4 : Fm _ (3 * d + 1) := ⟨c3.1, by have := c3.2.1; omega, c3.2.2⟩
          exact ⟨_, _, _, rfl, c4, s4⟩
      rw [show k + 2 = (k + 1) + 1 from rfl]
      simp only [spec_source_form.j0]
      rw [if_neg (by simp)]
      by_cases h4 : n > 3
      · rw [if_pos h4]
        obtain ⟨u, a2, f2, e2, -, -, s2⟩ := pick_tells 4 s1 (k + 1) (by omega)
        rw [e2, bsome]
        exact j1 _ _ _ s2 (fun _ => h4)
      · rw [if_neg h4]
        exact j1 false _ _ s1 (fun hb => by cases hb)

theorem rd_int {l : List Int} {i : Nat} (h : i < l.length) : rd l (i : Int) = l[i] := getD_at 0 h
/-- Does a formula have a step of a kind with a number? -/
def hasS (f : List S51) (k a : Int) : Bool := f.any fun x => decide (x.f0 = k) && decide (x.f1 = a)
theorem hasS_cons (x : S51) (f : List S51) (k a : Int) : hasS (x :: f) k a = ((decide (x.f0 = k) && decide (x.f1 = a)) || hasS f k a) := rfl
theorem spec_needs_at (f : List S51) (kd a : Int) (hf : f.length ≤ 1048576) (k : Nat) (hk : f.length < k) : spec_needs.f k f kd a = some (hasS f kd a) := by
  have := loop_s (n := f.length) (m := 0) (s := 1) (by omega) (fun k i => spec_needs.l0 k f kd a (i : Int) = some (hasS (f.drop i) kd a))
    (fun k _ => by show spec_needs.l0 (k + 1) f kd a (f.length : Int) = _; simp only [spec_needs.l0]; rw [if_neg (by omega), List.drop_length]; rfl)
    (fun k i h _ ih => by
      show spec_needs.l0 (k + 1) f kd a (i : Int) = _
      have ih' : spec_needs.l0 k f kd a ((i + 1 : Nat) : Int) = some (hasS (f.drop (i + 1)) kd a) := ih
      simp only [spec_needs.l0]
      rw [if_pos (by omega), if_pos (by omega), rd_step h, wnext h (by omega), drop_cons h, hasS_cons, ih']
      by_cases h1 : (f[i]'h).f0 = kd
      · by_cases h2 : (f[i]'h).f1 = a
        · rw [if_pos h1, if_pos h2]; simp [h1, h2]
        · rw [if_pos h1, if_neg h2]; simp [h2]
      · rw [if_neg h1]; simp [h1]) f.length 0 k (by omega) (by omega) (by omega)
  unfold spec_needs.f
  exact this
/-- The numbers 0 to 11 that a formula has with a kind, in order. -/
def needsL (f : List S51) (kd : Int) (i d : Nat) : List Int := ((List.range' i d).map (fun n : Nat => (n : Int))).filter (hasS f kd)
theorem spec_l0_at (f : List S51) (kd : Int) (hf : f.length ≤ 1048576) : ∀ (d i : Nat) (acc : List Int) (k : Nat), i + d = 12 → f.length + d + 1 < k → acc.length + d ≤ 1000 → spec_FormNeeds.l0 k f kd acc (i : Int) = some (acc ++ needsL f kd i d) := by
  intro d
  induction d with
  | zero =>
    intro i acc k hi hk _
    obtain ⟨k, rfl⟩ : ∃ q, k = q + 1 := ⟨k - 1, by omega⟩
    simp only [spec_FormNeeds.l0]
    rw [if_neg (by omega)]; simp [needsL]
  | succ d ih =>
    intro i acc k hi hk ha
    obtain ⟨k, rfl⟩ : ∃ q, k = q + 1 := ⟨k - 1, by omega⟩
    simp only [spec_FormNeeds.l0]
    rw [if_pos (by omega), spec_needs_at f kd _ hf k (by omega), bsome, w64 (by omega) (by omega), show (i : Int) + 1 = ((i + 1 : Nat) : Int) by omega]
    have e : needsL f kd i (d + 1) = (if hasS f kd (i : Int) = true then [(i : Int)] else []) ++ needsL f kd (i + 1) d := by
      unfold needsL
      rw [List.range'_succ, List.map_cons, List.filter_cons]
      split <;> simp
    rw [e]
    by_cases h : hasS f kd (i : Int) = true
    · rw [if_pos h, if_pos h, if_pos (by omega), ih (i + 1) _ k (by omega) (by omega) (by simp; omega)]; simp
    · rw [if_neg h, if_neg h, ih (i + 1) _ k (by omega) (by omega) (by omega)]; simp
theorem needsL_mem {f : List S51} {kd : Int} {i d : Nat} {a : Int} : a ∈ needsL f kd i d ↔ (∃ n : Nat, i ≤ n ∧ n < i + d ∧ (n : Int) = a) ∧ hasS f kd a = true := by
  unfold needsL
  rw [List.mem_filter, List.mem_map]
  constructor
  · rintro ⟨⟨n, hn, e⟩, h⟩
    have := List.mem_range'_1.1 hn
    exact ⟨⟨n, this.1, this.2, e⟩, h⟩
  · rintro ⟨⟨n, h1, h2, e⟩, h⟩
    exact ⟨⟨n, List.mem_range'_1.2 ⟨h1, h2⟩, e⟩, h⟩
theorem needsL_sorted (f : List S51) (kd : Int) : ∀ (d i : Nat), (needsL f kd i d).Pairwise (· < ·) := by
  intro d
  induction d with
  | zero => intro i; simp [needsL]
  | succ d ih =>
    intro i
    have e : needsL f kd i (d + 1) = (if hasS f kd (i : Int) = true then [(i : Int)] else []) ++ needsL f kd (i + 1) d := by
      unfold needsL
      rw [List.range'_succ, List.map_cons, List.filter_cons]
      split <;> simp
    rw [e]
    split
    · show ((i : Int) :: needsL f kd (i + 1) d).Pairwise (· < ·)
      refine List.Pairwise.cons (fun b hb => ?_) (ih (i + 1))
      obtain ⟨⟨n, h1, -, e⟩, -⟩ := needsL_mem.1 hb
      omega
    · exact ih (i + 1)
theorem sorted_eq : ∀ (a b : List Int), a.Pairwise (· < ·) → b.Pairwise (· < ·) → (∀ x, x ∈ a ↔ x ∈ b) → a = b := by
  intro a
  induction a with
  | nil =>
    intro b _ _ h
    cases b with
    | nil => rfl
    | cons y ys => have := (h y).2 (by simp); cases this
  | cons x xs ih =>
    intro b ha hb h
    cases b with
    | nil => have := (h x).1 (by simp); cases this
    | cons y ys =>
      obtain ⟨a1, a2⟩ := List.pairwise_cons.1 ha
      obtain ⟨b1, b2⟩ := List.pairwise_cons.1 hb
      have hxy : x = y := by
        rcases List.mem_cons.1 ((h x).1 (by simp)) with e | e
        · exact e
        rcases List.mem_cons.1 ((h y).2 (by simp)) with e' | e'
        · exact e'.symm
        have := b1 x e; have := a1 y e'; omega
      subst hxy
      rw [ih ys a2 b2 (fun z => ?_)]
      constructor
      · intro hz
        rcases List.mem_cons.1 ((h z).1 (by simp [hz])) with e | e
        · have := a1 z hz; omega
        · exact e
      · intro hz
        rcases List.mem_cons.1 ((h z).2 (by simp [hz])) with e | e
        · have := b1 z hz; omega
        · exact e
theorem contains_at (acc : List Int) (a : Int) (hl : acc.length ≤ 1048576) (k : Nat) (hk : acc.length < k) : slices_Contains_int_int.f k acc a = some (acc.contains a) := by
  have := loop_s (n := acc.length) (m := 0) (s := 1) (by omega) (fun k i => ∃ r, slices_Index_int_int.l0 k acc a (acc.length : Int) (i : Int) = some r ∧ (0 ≤ r ↔ a ∈ acc.drop i))
    (fun k _ => by
      show ∃ r, slices_Index_int_int.l0 (k + 1) acc a (acc.length : Int) (acc.length : Int) = some r ∧ _
      simp only [slices_Index_int_int.l0]
      rw [if_neg (by omega), List.drop_length]
      exact ⟨-1, rfl, by simp⟩)
    (fun k i h _ ih => by
      show ∃ r, slices_Index_int_int.l0 (k + 1) acc a (acc.length : Int) (i : Int) = some r ∧ _
      obtain ⟨r, e1, e2⟩ := ih
      have e1' : slices_Index_int_int.l0 k acc a (acc.length : Int) ((i + 1 : Nat) : Int) = some r := e1
      simp only [slices_Index_int_int.l0]
      rw [if_pos (by omega), if_pos (by omega), if_pos (by omega), rd_int h, wnext h (by omega), drop_cons h]
      by_cases e : a = acc[i]
      · rw [if_pos e]; exact ⟨(i : Int), rfl, fun _ => List.mem_cons.2 (.inl e), fun _ => by omega⟩
      · rw [if_neg e]; exact ⟨r, e1', fun q => List.mem_cons.2 (.inr (e2.1 q)), fun q => e2.2 ((List.mem_cons.1 q).resolve_left e)⟩) acc.length 0 k (by omega) (by omega) (by omega)
  obtain ⟨r, e1, e2⟩ := this
  unfold slices_Contains_int_int.f slices_Index_int_int.f
  have e1' : slices_Index_int_int.l0 k acc a (acc.length : Int) 0 = some r := e1
  rw [e1', bsome]
  congr 1
  rw [List.drop_zero] at e2
  by_cases h : a ∈ acc
  · rw [decide_eq_true (by have := e2.2 h; omega)]; exact (List.contains_iff_mem.2 h).symm
  · rw [decide_eq_false (by intro q; exact h (e2.1 (by omega)))]
    have : ¬ acc.contains a = true := fun q => h (List.contains_iff_mem.1 q)
    simpa using this
/-- The numbers with a kind, each once, as they come. -/
def dd (kd : Int) : List Int → List S51 → List Int
  | acc, [] => acc
  | acc, x :: xs => if x.f0 = kd then (if acc.contains x.f1 = true then dd kd acc xs else dd kd (acc ++ [x.f1]) xs) else dd kd acc xs
theorem dd_props (kd : Int) : ∀ (xs : List S51) (acc : List Int), acc.Nodup → (dd kd acc xs).Nodup ∧ (dd kd acc xs).length ≤ acc.length + xs.length ∧ ∀ a, a ∈ dd kd acc xs ↔ a ∈ acc ∨ hasS xs kd a = true := by
  intro xs
  induction xs with
  | nil => intro acc h; exact ⟨h, by simp [dd], fun a => by simp [dd, hasS]⟩
  | cons x xs ih =>
    intro acc h
    unfold dd
    by_cases h1 : x.f0 = kd
    · rw [if_pos h1]
      by_cases h2 : acc.contains x.f1 = true
      · rw [if_pos h2]
        obtain ⟨a1, a2, a3⟩ := ih acc h
        refine ⟨a1, by simp; omega, fun a => ?_⟩
        rw [a3, hasS_cons]
        have hm := List.contains_iff_mem.1 h2
        by_cases e : x.f1 = a
        · subst e; simp [hm]
        · simp [e]
      · rw [if_neg h2]
        have hm : x.f1 ∉ acc := fun q => h2 (List.contains_iff_mem.2 q)
        obtain ⟨a1, a2, a3⟩ := ih (acc ++ [x.f1]) (List.nodup_append.2 ⟨h, by simp, fun a ha b hb => by simp at hb; subst hb; exact fun e => hm (e ▸ ha)⟩)
        refine ⟨a1, by simp at a2 ⊢; omega, fun a => ?_⟩
        rw [a3, hasS_cons]
        by_cases e : x.f1 = a
        · subst e; simp [h1]
        · have e' : ¬ a = x.f1 := fun q => e q.symm
          simp [e, e']
    · rw [if_neg h1]
      obtain ⟨a1, a2, a3⟩ := ih acc h
      refine ⟨a1, by simp; omega, fun a => ?_⟩
      rw [a3, hasS_cons]; simp [h1]
theorem impl_l0_at (f : List S51) (kd : Int) (hf : f.length ≤ 1000) (k : Nat) (hk : f.length + 1010 < k) : impl_FormNeeds.l0 k kd [] f (f.length : Int) 0 = slices_Sort_int_int.f (dd kd [] f) := by
  have := loop_s (n := f.length) (m := 1005) (s := 1) (by omega) (fun k i => ∀ acc : List Int, acc.length ≤ i → impl_FormNeeds.l0 k kd acc f (f.length : Int) (i : Int) = slices_Sort_int_int.f (dd kd acc (f.drop i)))
    (fun k _ acc _ => by
      simp only [impl_FormNeeds.l0]
      rw [if_neg (by omega), List.drop_length]
      unfold dd
      cases slices_Sort_int_int.f acc <;> rfl)
    (fun k i h hk ih acc ha => by
      simp only [impl_FormNeeds.l0]
      rw [if_pos (by omega), if_pos (by omega), if_pos (by omega), rd_step h, wnext h (by omega), drop_cons h, contains_at acc _ (by omega) k (by omega), bsome]
      conv => rhs; unfold dd
      by_cases h1 : (f[i]'h).f0 = kd
      · rw [if_pos h1, if_pos h1]
        by_cases h2 : acc.contains (f[i]'h).f1 = true
        · rw [if_pos h2, if_pos h2]; exact ih acc (by omega)
        · rw [if_neg h2, if_neg h2, if_pos (by omega)]; exact ih _ (by simp; omega)
      · rw [if_neg h1, if_neg h1]; exact ih acc (by omega)) f.length 0 k (by omega) (by omega) (by omega) [] (by simp)
  simpa using this
theorem fits_all {p s t : Int} : ∀ (l : List S51) (n : Int), fits p s t l n = true → ∀ x ∈ l, stOk x p s t = true := by
  intro l
  induction l with
  | nil => intro n _ x hx; cases hx
  | cons y ys ih =>
    intro n h x hx
    unfold fits at h
    by_cases c : stOk y p s t = true ∧ takesN y ≤ n
    · rw [if_pos c] at h
      rcases List.mem_cons.1 hx with rfl | hx
      · exact c.1
      · exact ih _ h x hx
    · rw [if_neg c] at h; cases h
theorem small_num {x : S51} (h : stOk x 3 3 4 = true) {kd : Int} (hk : 1 ≤ kd ∧ kd ≤ 4) (hx : x.f0 = kd) : 0 ≤ x.f1 ∧ x.f1 < 12 := by
  unfold stOk at h
  rw [if_neg (by omega), Bool.and_eq_true] at h
  have h2 := h.2
  unfold numOk at h2
  by_cases c1 : x.f0 = 1
  · rw [if_pos c1, decide_eq_true_eq] at h2; omega
  rw [if_neg c1] at h2
  by_cases c2 : x.f0 = 2
  · rw [if_pos c2, decide_eq_true_eq] at h2; omega
  rw [if_neg c2] at h2
  by_cases c3 : x.f0 = 3
  · rw [if_pos c3, decide_eq_true_eq] at h2; omega
  rw [if_neg c3] at h2
  by_cases c4 : x.f0 = 4
  · rw [if_pos c4, decide_eq_true_eq] at h2; omega
  omega
theorem sorted_needs {f : List S51} {kd : Int} (h : formOk f 3 3 4 = true) (hk : 1 ≤ kd ∧ kd ≤ 4) (hf : f.length ≤ 1000) : slices_Sort_int_int.f (dd kd [] f) = some (needsL f kd 0 12) := by
  obtain ⟨d1, d2, d3⟩ := dd_props kd f [] (by simp)
  unfold slices_Sort_int_int.f
  rw [if_pos (by simp at d2; omega)]
  congr 1
  have hp := List.mergeSort_perm (dd kd [] f) (fun x y => decide (x ≤ y))
  have hs := List.pairwise_mergeSort (le := fun x y : Int => decide (x ≤ y)) (fun a b c => by simp only [decide_eq_true_eq]; omega) (fun a b => by simp only [Bool.or_eq_true, decide_eq_true_eq]; omega) (dd kd [] f)
  have hn : ((dd kd [] f).mergeSort fun x y => decide (x ≤ y)).Nodup := hp.nodup_iff.2 d1
  refine sorted_eq _ _ ?_ (needsL_sorted f kd 12 0) (fun a => ?_)
  · refine (hs.and hn).imp (fun {a b} hab => ?_)
    have h1 : a ≤ b := by simpa using hab.1
    have h2 : a ≠ b := hab.2
    omega
  · rw [hp.mem_iff, d3, needsL_mem]
    constructor
    · intro q
      rcases q with q | q
      · cases q
      refine ⟨?_, q⟩
      unfold hasS at q
      obtain ⟨x, hx, hq⟩ := List.any_eq_true.1 q
      simp only [Bool.and_eq_true, decide_eq_true_eq] at hq
      unfold formOk at h; rw [Bool.and_eq_true] at h
      have := small_num (fits_all f 0 h.1 x hx) hk hq.1
      exact ⟨a.toNat, by omega, by omega, by omega⟩
    · intro q; exact .inr q.2
def ndL (f : List S51) (kd : Int) : List Int := if (1 ≤ kd ∧ kd ≤ 4) ∧ formOk f 3 3 4 = true then needsL f kd 0 12 else []
theorem spec_needs_f (f : List S51) (kd : Int) (hf : f.length ≤ 1000) (hm : ∀ x ∈ f, x.f2.f2.size ≤ 20) (k : Nat) (hk : 8388608 < k) : spec_FormNeeds.f k f kd = some (ndL f kd) := by
  have j0 : ∀ b : Bool, spec_FormNeeds.j0 k f kd b = some (if b = true then [] else needsL f kd 0 12) := by
    intro b
    obtain ⟨k, rfl⟩ : ∃ q, k = q + 1 := ⟨k - 1, by omega⟩
    simp only [spec_FormNeeds.j0]
    cases b
    · rw [if_neg (by decide), if_neg (by decide)]
      have := spec_l0_at f kd (by omega) 12 0 [] k (by omega) (by omega) (by simp)
      simpa using this
    · rfl
  unfold spec_FormNeeds.f ndL
  rw [inRange_at, bsome, spec_form_at f 3 3 4 (by omega) (by omega) (by omega) (by omega) 21 (fun x hx => by have := hm x hx; omega) (by omega) k (by omega), bsome]
  simp only [j0, decide_eq_true_eq]
  by_cases h1 : 1 ≤ kd ∧ kd ≤ 4
  · rw [if_pos h1]
    cases h2 : formOk f 3 3 4 <;> simp [h1]
  · rw [if_neg h1, if_neg (show ¬ ((1 ≤ kd ∧ kd ≤ 4) ∧ formOk f 3 3 4 = true) from fun q => h1 q.1)]; rfl
theorem impl_needs_f (f : List S51) (kd : Int) (hf : f.length ≤ 1000) (hm : ∀ x ∈ f, x.f2.f2.size ≤ 20) (k : Nat) (hk : 8388608 < k) : impl_FormNeeds.f k f kd = some (ndL f kd) := by
  have ok : impl_FormOk.f k f 3 3 4 = some (formOk f 3 3 4) := by
    unfold impl_FormOk.f
    simp only [within_at, impl_form_at f 3 3 4 (by omega) (by omega) (by omega) (by omega) 21 (fun x hx => by have := hm x hx; omega) (by omega) k (by omega), bsome]
    simp
  obtain ⟨k, rfl⟩ : ∃ q, k = q + 1 := ⟨k - 1, by omega⟩
  unfold impl_FormNeeds.f ndL
  rw [within_at, bsome, ok, bsome]
  simp only [impl_FormNeeds.j0, impl_l0_at f kd hf k (by omega), decide_eq_true_eq]
  by_cases h1 : 1 ≤ kd ∧ kd ≤ 4
  · rw [if_pos h1]
    cases h2 : formOk f 3 3 4
    · simp [h1]
    · rw [sorted_needs h2 h1 hf]; simp [h1]
  · rw [if_neg h1, if_neg (show ¬ ((1 ≤ kd ∧ kd ≤ 4) ∧ formOk f 3 3 4 = true) from fun q => h1 q.1)]; rfl

theorem sameInts_refl (l : List Int) (hl : l.length ≤ 1048576) (k : Nat) (hk : l.length < k) : spec_SameInts.f k l l = some true := by
  unfold spec_SameInts.f
  rw [if_pos rfl]
  have := all_loop l (fun k i => spec_SameInts.l0 k l l i) (fun _ => true) true 0 1 (by omega)
    (fun k _ => by simp only [spec_SameInts.l0]; rw [if_neg (by omega)])
    (fun k i h _ => by
      simp only [spec_SameInts.l0]
      rw [if_pos (by omega), if_pos (by omega), if_pos (by omega), wnext h (by omega)]) k (by omega)
  rw [this]; congr 1; simp [List.all_eq_true]
theorem needsDraw {l : List Int} (h : Src l 0 4000) (k : Nat) (hk : 400 < k) : ∃ f kd, spec_DrawFormNeeds.f k l = some (f, kd) ∧ f.length ≤ 100 ∧ ∀ x ∈ f, x.f2.f2.size ≤ 20 := by
  unfold spec_DrawFormNeeds.f spec_newSource.f
  rw [bsome]
  obtain ⟨f, a1, f1, e1, ⟨-, h1, h2⟩, s1⟩ := form_tells 3 3 4 9 9 k 0 4000 (by omega) (by omega) (by omega) h
  show ∃ f' kd, Option.bind (spec_source_form.f k l 0 4000 3 3 4 9) _ = some (f', kd) ∧ _
  rw [e1, bsome]
  obtain ⟨v1, a2, f2, e2, p2, q2, s2⟩ := pick_tells 6 s1 k (by omega)
  show ∃ f' kd, Option.bind (spec_source_pick.f k l a1 f1 6) _ = some (f', kd) ∧ _
  rw [e2, bsome]
  obtain ⟨v2, a3, f3, e3, p3, q3, s3⟩ := pick_tells 4 s2 k (by omega)
  show ∃ f' kd, Option.bind (spec_source_pick.f k l a2 f2 4) _ = some (f', kd) ∧ _
  rw [e3, bsome]
  obtain ⟨v3, a4, f4, e4, m4, s4⟩ := one_tells [v1, wrap64 (1 + v2)] (by simp) s3 k (by omega)
  show ∃ f' kd, Option.bind (spec_source_one.f k l a3 f3 [v1, wrap64 (1 + v2)]) _ = some (f', kd) ∧ _
  rw [e4, bsome]
  exact ⟨_, _, rfl, by show f.length ≤ 100; omega, h2⟩
theorem ndL_short (f : List S51) (kd : Int) : (ndL f kd).length ≤ 12 := by
  unfold ndL
  split
  · unfold needsL
    refine Nat.le_trans (List.length_filter_le _ _) ?_
    simp
  · simp
theorem ndL_has {f : List S51} {kd a : Int} (h : a ∈ ndL f kd) : hasS f kd a = true := by
  unfold ndL at h
  split at h
  · exact (needsL_mem.1 h).2
  · cases h
theorem ndL_sorted (f : List S51) (kd : Int) : (ndL f kd).Pairwise (· < ·) := by
  unfold ndL
  split
  · exact needsL_sorted f kd 12 0
  · exact List.Pairwise.nil
theorem FnFormNeeds : laws_FnFormNeeds.Pure := by
  intro l _ _ hl
  obtain ⟨k, hk⟩ : ∃ k : Nat, k = 16777216 := ⟨_, rfl⟩
  refine ⟨k + 1, ?_⟩
  unfold laws_FnFormNeeds.f
  by_cases hlen : (l.length : Int) > 1048576
  · rw [if_pos hlen]
  rw [if_neg hlen]
  obtain ⟨f, kd, e1, h1, h2⟩ := needsDraw (src_new hl) (k + 1) (by omega)
  rw [e1, bsome]
  show Option.bind (impl_FormNeeds.f (k + 1) f kd) _ = _
  rw [impl_needs_f f kd (by omega) h2 (k + 1) (by omega), bsome]
  show Option.bind (spec_FormNeeds.f (k + 1) f kd) _ = _
  rw [spec_needs_f f kd (by omega) h2 (k + 1) (by omega), bsome]
  have hs := ndL_short f kd
  have hso := List.pairwise_iff_getElem.1 (ndL_sorted f kd)
  have hh : ∀ a ∈ ndL f kd, hasS f kd a = true := fun a ha => ndL_has ha
  generalize ndL f kd = o at *
  rw [sameInts_refl o (by omega) (k + 1) (by omega), bsome, if_pos rfl]
  show laws_FnFormNeeds.j0 (k + 1) f kd o true ((o.length : Int) == 0) = _
  simp only [laws_FnFormNeeds.j0]
  by_cases hz : (o.length : Int) = 0
  · rw [if_pos (beq_iff_eq.mpr hz)]
  rw [beq_eq_false_iff_ne.mpr hz, if_neg (by decide)]
  have := all_loop o (fun k i => laws_FnFormNeeds.l0 k f kd o i) (fun _ => true) true 1000 1 (by omega)
    (fun k _ => by simp only [laws_FnFormNeeds.l0]; rw [if_neg (by omega)])
    (fun k i h hk => by
      have hb : spec_HasStep.f k f kd o[i] = some true := by
        unfold spec_HasStep.f
        rw [spec_needs_at f kd _ (by omega) k (by omega), bsome, hh _ (List.getElem_mem h)]
      simp only [laws_FnFormNeeds.l0]
      rw [if_pos (by omega), rd_int h, hb, bsome, wnext h (by omega)]
      by_cases hi : i = 0
      · subst hi
        rw [if_neg (by omega), if_pos (by omega)]; simp
      · have hp : wrap64 ((i : Int) - 1) = ((i - 1 : Nat) : Int) := by rw [w64 (by omega) (by omega)]; omega
        have hlt := hso (i - 1) i (by omega) h (by omega)
        rw [if_pos (by omega), hp, if_pos (by omega), if_pos (by omega), if_pos (by omega), rd_int (by omega : i - 1 < o.length), if_neg (by omega)]; simp) k (by omega)
  rw [this]; congr 1; simp [List.all_eq_true]

end Go.Proofs.Ytnbdofimiljeiaa.Pure
