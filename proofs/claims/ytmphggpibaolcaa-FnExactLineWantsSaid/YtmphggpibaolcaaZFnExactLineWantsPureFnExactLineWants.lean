/- The pure statement of the law 'FnExactLineWants': for every line the law's function returns true, so the program's LineWants is the reference's (no other condition). -/
import Derived.Test.YtmphggpibaolcaaZFnExactLineWantsQFnExactLineWantsx18
namespace Go.Proofs.Ytmphggpibaolcaa.Pure
open Go Go.RowKit Go.Proofs.Ytmphggpibaolcaa.PFnExactLineWants Go.Proofs.YtmphggpibaolcaaW.PrintWords Go.Proofs.YtmphggpibaolcaaW.PrintLast
set_option linter.unusedVariables false
set_option linter.unusedSimpArgs false
theorem w64 {n : Int} (h1 : -9223372036854775808 ≤ n) (h2 : n ≤ 9223372036854775807) : wrap64 n = n := by
 unfold wrap64; omega
theorem wnext {i n : Nat} (h : i < n) (hn : n ≤ 4611686018427387904) : wrap64 ((i : Int) + 1) = ((i + 1 : Nat) : Int) := by
 rw [w64 (by omega) (by omega)]; omega
theorem loop_up {n : Nat} (Q : Nat → Nat → Prop) (last : ∀ k, Q (k + 1) n) (step : ∀ k i, i < n → Q k (i + 1) → Q (k + 1) i) : ∀ k i, i ≤ n → n - i < k → Q k i := by
 intro k
 induction k with
 | zero => intro i _ h; omega
 | succ k ih =>
  intro i hi hk
  by_cases h : i = n
  ·subst h; exact last k
  ·exact step k i (by omega) (ih (i + 1) (by omega) (by omega))
theorem drop_at {α : Type} {l : List α} {i : Nat} (d : α) (h : i < l.length) : l.drop i = l.getD ((i : Int)).toNat d :: l.drop (i + 1) := by
 rw [List.drop_eq_getElem_cons h, List.getD_eq_getElem?_getD]
 simp [h]
theorem range_at {i n : Nat} (h : i < n) : List.range' i (n - i) = i :: List.range' (i + 1) (n - (i + 1)) := by
 rw [show n - i = (n - (i + 1)) + 1 by omega, List.range'_succ]
theorem range_end (n : Nat) : List.range' n (n - n) = [] := by simp
theorem bsome {α β : Type} (a : α) (f : α → Option β) : (some a).bind f = f a := by
 cases h : f a <;> simp [h]
theorem getD_at {α : Type} {l : List α} {i : Nat} (d : α) (h : i < l.length) : l.getD ((i : Int)).toNat d = l[i] := by
 simp [List.getD_eq_getElem?_getD, h]
theorem drop_cons {α : Type} {l : List α} {i : Nat} (h : i < l.length) : l.drop i = l[i] :: l.drop (i + 1) := List.drop_eq_getElem_cons h
theorem loop_s {n m s : Nat} (hs : 0 < s) (Q : Nat → Nat → Prop) (last : ∀ k, m ≤ k → Q (k + 1) n) (step : ∀ k i, i < n → m ≤ k → Q k (i + 1) → Q (k + s) i) : ∀ d i k, n - i = d → i ≤ n → d * s + m < k → Q k i := by
 intro d
 induction d with
 | zero =>
  intro i k hd hi hk
  obtain rfl : i = n := by omega
  obtain ⟨k, rfl⟩ : ∃ q, k = q + 1 := ⟨k - 1, by omega⟩
  exact last k (by omega)
 | succ d ih =>
  intro i k hd hi hk
  rw [Nat.add_mul, Nat.one_mul] at hk
  obtain ⟨k, rfl⟩ : ∃ q, k = q + s := ⟨k - s, by omega⟩
  exact step k i (by omega) (by omega) (ih (i + 1) k (by omega) (by omega) (by omega))
theorem all_loop {α : Type} (xs : List α) (F : Nat → Int → Option Bool) (p : α → Bool) (fin : Bool) (m s : Nat) (hs : 0 < s)
  (hend : ∀ k, m ≤ k → F (k + 1) (xs.length : Int) = some fin)
  (hstep : ∀ k i (h : i < xs.length), m ≤ k → F (k + s) (i : Int) = if p xs[i] = true then F k ((i + 1 : Nat) : Int) else some false) :
  ∀ k, xs.length * s + m < k → F k 0 = some (xs.all p && fin) := by
 intro k hk
 have := loop_s (n := xs.length) (m := m) (s := s) hs (fun k i => F k (i : Int) = some ((xs.drop i).all p && fin)) (fun k hm => by show F (k + 1) (xs.length : Int) = _; rw [hend k hm, List.drop_length]; rfl)
  (fun k i h hm ih => by
   show F (k + s) (i : Int) = _
   rw [hstep k i h hm, drop_cons h, List.all_cons]
   have ih' : F k ((i + 1 : Nat) : Int) = some ((xs.drop (i + 1)).all p && fin) := ih
   rw [ih']
   by_cases hp : p xs[i] = true <;> simp [hp]) xs.length 0 k (by omega) (by omega) hk
 simpa using this
theorem map_loop {α β : Type} (xs : List α) (F : Nat → List β → Int → Option (List β)) (c : α → β) (z : β) (m s : Nat) (hs : 0 < s)
  (hend : ∀ k acc, m ≤ k → F (k + 1) acc (xs.length : Int) = some acc)
  (hstep : ∀ k (acc : List β) i (h : i < xs.length), m ≤ k → i < acc.length → F (k + s) acc (i : Int) = F k (acc.set i (c xs[i])) ((i + 1 : Nat) : Int)) :
  ∀ k, xs.length * s + m < k → F k (List.replicate xs.length z) 0 = some (xs.map c) := by
 intro k hk
 have := loop_s (n := xs.length) (m := m) (s := s) hs (fun k i => ∀ p : List β, p.length = i → F k (p ++ List.replicate (xs.length - i) z) (i : Int) = some (p ++ (xs.drop i).map c))
  (fun k hm p hp => by rw [hend k _ hm]; simp)
  (fun k i h hm ih p hp => by
   rw [hstep k _ i h hm (by simp; omega), show xs.length - i = (xs.length - (i + 1)) + 1 by omega, List.replicate_succ]
   have e : (p ++ z :: List.replicate (xs.length - (i + 1)) z).set i (c xs[i]) = (p ++ [c xs[i]]) ++ List.replicate (xs.length - (i + 1)) z := by
    subst hp; simp
   rw [e, ih (p ++ [c xs[i]]) (by simp [hp]), drop_cons h, List.map_cons, List.append_assoc]; rfl) xs.length 0 k (by omega) (by omega) hk [] rfl
 simpa using this
theorem sz_loop {α : Type} (xs : List α) (F : Nat → Int → Int → Option Int) (sz : α → Nat) (m s : Nat) (hs : 0 < s)
  (hend : ∀ (k : Nat) (left : Int), m ≤ k → F (k + 1) left (xs.length : Int) = some left)
  (hstep : ∀ (k : Nat) (left : Int) (i : Nat) (h : i < xs.length), m ≤ k → 0 ≤ left → left ≤ 1048576 → ∃ t, t ≤ left ∧ (0 ≤ t → t = left - sz xs[i]) ∧ F (k + s) left (i : Int) = if t < 0 then some (-1) else F k t ((i + 1 : Nat) : Int)) :
  ∀ (k : Nat) (left : Int), xs.length * s + m < k → 0 ≤ left → left ≤ 1048576 → ∃ r, F k left 0 = some r ∧ r ≤ left ∧ (0 ≤ r → r = left - (xs.map sz).sum) := by
 intro k left hk h0 h1
 have := loop_s (n := xs.length) (m := m) (s := s) hs (fun k i => ∀ left : Int, 0 ≤ left → left ≤ 1048576 → ∃ r, F k left (i : Int) = some r ∧ r ≤ left ∧ (0 ≤ r → r = left - ((xs.drop i).map sz).sum))
  (fun k hm left h0 h1 => ⟨left, by rw [hend k _ hm], by omega, by simp⟩)
  (fun k i h hm ih left h0 h1 => by
   obtain ⟨t, t1, t2, t3⟩ := hstep k left i h hm h0 h1
   by_cases ht : t < 0
   ·exact ⟨-1, by rw [t3, if_pos ht], by omega, by omega⟩
   ·obtain ⟨r, r1, r2, r3⟩ := ih t (by omega) (by omega)
    refine ⟨r, by rw [t3, if_neg ht, r1], by omega, fun hr => ?_⟩
    rw [r3 hr, t2 (by omega), drop_cons h, List.map_cons, List.sum_cons]; omega) xs.length 0 k (by omega) (by omega) hk left h0 h1
 simpa using this
theorem sum_mem {α : Type} {xs : List α} {sz : α → Nat} {x : α} (h : x ∈ xs) : sz x ≤ (xs.map sz).sum := by
 induction xs with
 | nil => cases h
 | cons y ys ih =>
  rw [List.map_cons, List.sum_cons]
  rcases List.mem_cons.1 h with rfl | h
  ·omega
  ·have := ih h; omega
theorem within_at (a b c : Int) : impl_within.f a b c = some (decide (b ≤ a ∧ a ≤ c)) := by
 unfold impl_within.f
 by_cases h : a ≥ b
 ·rw [if_pos h]; congr 1; exact decide_eq_decide.mpr ⟨fun x => ⟨h, x⟩, fun x => x.2⟩
 ·rw [if_neg h]; congr 1; exact (decide_eq_false fun x => h x.1).symm
theorem inRange_at (a b c : Int) : spec_inRange.f a b c = some (decide (b ≤ a ∧ a ≤ c)) := by
 unfold spec_inRange.f
 by_cases h : a ≥ b
 ·rw [if_pos h]; congr 1; exact decide_eq_decide.mpr ⟨fun x => ⟨h, x⟩, fun x => x.2⟩
 ·rw [if_neg h]; congr 1; exact (decide_eq_false fun x => h x.1).symm
def Good (c : Int) : Prop := (97 ≤ c ∧ c ≤ 122) ∨ (48 ≤ c ∧ c ≤ 57) ∨ c = 32
instance (c : Int) : Decidable (Good c) := by unfold Good; exact inferInstance
def goodsFrom (s : ByteArray) (i : Nat) : Bool := (List.range' i (s.size - i)).all fun j => decide (Good (bt s j))
theorem goods_at {s : ByteArray} {i : Nat} (h : i < s.size) : goodsFrom s i = (decide (Good (bt s i)) && goodsFrom s (i + 1)) := by
 unfold goodsFrom; rw [range_at h]; rfl
theorem goods_end (s : ByteArray) : goodsFrom s s.size = true := by
 unfold goodsFrom; rw [range_end]; rfl
def wordOk (s : ByteArray) : Bool := goodsFrom s 0 && decide (s.size ≤ 12)
theorem impl_word_l (s : ByteArray) (hs : s.size ≤ 4611686018427387904) : ∀ k i, i ≤ s.size → s.size - i < k → impl_word.l0 k s (i : Int) = some (goodsFrom s i && decide (s.size ≤ 12)) := by
 refine loop_up (fun k i => impl_word.l0 k s (i : Int) = some (goodsFrom s i && decide (s.size ≤ 12))) ?_ ?_
 ·intro k
  simp only [impl_word.l0]
  rw [if_neg (by omega), goods_end, Bool.true_and]
  congr 1; exact decide_eq_decide.mpr (by omega)
 ·intro k i hi ih
  have e : impl_word.l0 (k + 1) s (i : Int) = if Good (bt s i) then impl_word.l0 k s (wrap64 ((i : Int) + 1)) else some false := by
   simp only [impl_word.l0]
   rw [if_pos (by omega), if_pos (by omega)]
   by_cases hg : Good (bt s i)
   ·rw [if_pos hg]; unfold Good at hg
    repeat' split
    all_goals first
     | rfl
     | (exfalso; omega)
   ·rw [if_neg hg]; unfold Good at hg
    repeat' split
    all_goals first
     | rfl
     | (exfalso; omega)
  rw [e, wnext hi hs, ih, goods_at hi]
  by_cases hg : Good (bt s i) <;> simp [hg]
theorem impl_word_at (s : ByteArray) (hs : s.size ≤ 4611686018427387904) (k : Nat) (hk : s.size < k) : impl_word.f k s = some (wordOk s) := by
 have := impl_word_l s hs k 0 (by omega) (by omega)
 unfold impl_word.f wordOk
 exact this
theorem plain_at (c : Int) : spec_plainByte.f c = some (decide (Good c)) := by
 unfold spec_plainByte.f
 by_cases hg : Good c
 ·rw [decide_eq_true hg]; unfold Good at hg
  repeat' split
  all_goals first
   | rfl
   | (congr 1; exact beq_iff_eq.mpr (by omega))
   | (exfalso; omega)
 ·rw [decide_eq_false hg]; unfold Good at hg
  repeat' split
  all_goals first
   | rfl
   | (congr 1; exact beq_eq_false_iff_ne.mpr (by omega))
   | (exfalso; omega)
theorem spec_word_l (s : ByteArray) (hs : s.size ≤ 4611686018427387904) : ∀ k i, i ≤ s.size → s.size - i < k → spec_validWord.l0 k s (i : Int) = some (goodsFrom s i) := by
 refine loop_up (fun k i => spec_validWord.l0 k s (i : Int) = some (goodsFrom s i)) ?_ ?_
 ·intro k
  simp only [spec_validWord.l0]
  rw [if_neg (by omega), goods_end]
 ·intro k i hi ih
  simp only [spec_validWord.l0]
  rw [if_pos (by omega), if_pos (by omega), plain_at, goods_at hi]
  simp only [Option.bind_some, wnext hi hs, ih]
  by_cases hg : Good (bt s i) <;> simp [hg]
theorem spec_word_at (s : ByteArray) (hs : s.size ≤ 4611686018427387904) (k : Nat) (hk : s.size < k) : spec_validWord.f k s = some (wordOk s) := by
 have := spec_word_l s hs k 0 (by omega) (by omega)
 unfold spec_validWord.f wordOk
 by_cases h : (s.size : Int) > 12
 ·rw [if_pos h, show decide (s.size ≤ 12) = false from decide_eq_false (by omega), Bool.and_false]
 ·rw [if_neg h, show decide (s.size ≤ 12) = true from decide_eq_true (by omega), Bool.and_true]; exact this
def vOk (a b : Int) (s : ByteArray) : Bool :=
 if a = 0 then (if b = 0 then s.toList == ([] : List UInt8) else false)
 else if a = 1 then (if -1000 ≤ b ∧ b ≤ 1000 then s.toList == ([] : List UInt8) else false)
 else if a = 2 then (if b = 0 then wordOk s else false) else false
theorem impl_valOk_at (a b : Int) (s : ByteArray) (hs : s.size ≤ 4611686018427387904) (k : Nat) (hk : s.size < k) : impl_ValOk.f k a b s = some (vOk a b s) := by
 unfold impl_ValOk.f vOk
 simp only [within_at, impl_word_at s hs k hk, Option.bind_some, decide_eq_true_eq]
 repeat' split
 all_goals rfl
theorem spec_val_at (a b : Int) (s : ByteArray) (hs : s.size ≤ 4611686018427387904) (k : Nat) (hk : s.size < k) : spec_validValue.f k a b s = some (vOk a b s) := by
 unfold spec_validValue.f vOk
 simp only [inRange_at, spec_word_at s hs k hk, Option.bind_some, decide_eq_true_eq]
 repeat' split
 all_goals rfl
def slotOk (x : S121) : Bool := decide (0 ≤ x.f0 ∧ x.f0 ≤ 3) && decide (0 ≤ x.f1 ∧ x.f1 ≤ 103)
theorem rd_slot {l : List S121} {i : Nat} (h : i < l.length) : l.drop i = rd_T121 l (i : Int) :: l.drop (i + 1) := drop_at z121 h
def plOk (l : List S121) : Bool := l.all slotOk && decide (l.length ≤ 20)
theorem validSlot_at (x : S121) : spec_validSlot.f x.f0 x.f1 = some (slotOk x) := by
 unfold spec_validSlot.f slotOk
 simp only [inRange_at, Option.bind_some]
 by_cases h : 0 ≤ x.f0 ∧ x.f0 ≤ 3 <;> simp [h]
theorem spec_place_l (l : List S121) (hl : l.length ≤ 4611686018427387904) : ∀ k i, i ≤ l.length → l.length - i < k → spec_validPlace.l0 k l (i : Int) = some ((l.drop i).all slotOk) := by
 refine loop_up (fun k i => spec_validPlace.l0 k l (i : Int) = some ((l.drop i).all slotOk)) ?_ ?_
 ·intro k
  simp only [spec_validPlace.l0]
  rw [if_neg (by omega), List.drop_length]; rfl
 ·intro k i hi ih
  simp only [spec_validPlace.l0]
  rw [if_pos (by omega), if_pos (by omega), validSlot_at, rd_slot hi]
  simp only [Option.bind_some, wnext hi hl, ih, List.all_cons]
  by_cases hg : slotOk (rd_T121 l (i : Int)) = true <;> simp [hg]
theorem spec_place_at (l : List S121) (hl : l.length ≤ 4611686018427387904) (k : Nat) (hk : l.length < k) : spec_validPlace.f k l = some (plOk l) := by
 have := spec_place_l l hl k 0 (by omega) (by omega)
 unfold spec_validPlace.f plOk
 by_cases h : (l.length : Int) > 20
 ·rw [if_pos h, show decide (l.length ≤ 20) = false from decide_eq_false (by omega), Bool.and_false]
 ·rw [if_neg h, show decide (l.length ≤ 20) = true from decide_eq_true (by omega), Bool.and_true]; exact this
theorem impl_place_l (l : List S121) (hl : l.length ≤ 4611686018427387904) : ∀ k i, i ≤ l.length → l.length - i < k → impl_PlaceOk.l0 k l l (l.length : Int) (i : Int) = some ((l.drop i).all slotOk && decide (l.length ≤ 20)) := by
 refine loop_up (fun k i => impl_PlaceOk.l0 k l l (l.length : Int) (i : Int) = some ((l.drop i).all slotOk && decide (l.length ≤ 20))) ?_ ?_
 ·intro k
  simp only [impl_PlaceOk.l0]
  rw [if_neg (by omega), List.drop_length]
  simp only [List.all_nil, Bool.true_and]
  congr 1; exact decide_eq_decide.mpr (by omega)
 ·intro k i hi ih
  simp only [impl_PlaceOk.l0]
  rw [if_pos (by omega), if_pos (by omega), if_pos (by omega), rd_slot hi]
  simp only [within_at, Option.bind_some, wnext hi hl, ih, List.all_cons, slotOk, decide_eq_true_eq]
  by_cases h0 : 0 ≤ (rd_T121 l (i : Int)).f0 ∧ (rd_T121 l (i : Int)).f0 ≤ 3
  ·by_cases h1 : 0 ≤ (rd_T121 l (i : Int)).f1 ∧ (rd_T121 l (i : Int)).f1 ≤ 103
   ·rw [if_pos h0, if_pos h1]; simp [h0, h1]
   ·rw [if_pos h0, if_neg h1]; simp [h0, h1]
  ·rw [if_neg h0]; simp [h0]
theorem impl_place_at (l : List S121) (hl : l.length ≤ 4611686018427387904) (k : Nat) (hk : l.length < k) : impl_PlaceOk.f k l = some (plOk l) := by
 have := impl_place_l l hl k 0 (by omega) (by omega)
 unfold impl_PlaceOk.f plOk
 exact this
def cmp : List S121 → List S121 → Int
 | [], [] => 0
 | [], _ :: _ => -1
 | _ :: _, [] => 1
 | x :: xs, y :: ys => if x.f0 = y.f0 ∧ x.f1 = y.f1 then cmp xs ys else if x.f0 < y.f0 ∨ (x.f0 = y.f0 ∧ x.f1 < y.f1) then -1 else 1
theorem cmp_end {a b : List S121} (i : Nat) (h : i = min a.length b.length) : cmp (a.drop i) (b.drop i) = if (a.length : Int) < (b.length : Int) then -1 else if (a.length : Int) > (b.length : Int) then 1 else 0 := by
 by_cases h1 : a.length < b.length
 ·rw [if_pos (by omega), List.drop_of_length_le (by omega : a.length ≤ i), drop_at z121 (by omega : i < b.length)]; rfl
 ·rw [if_neg (by omega), List.drop_of_length_le (by omega : b.length ≤ i)]
  by_cases h2 : b.length < a.length
  ·rw [if_pos (by omega), drop_at z121 (by omega : i < a.length)]; rfl
  ·rw [if_neg (by omega), List.drop_of_length_le (by omega : a.length ≤ i)]; rfl
theorem cmp_next {a b : List S121} {i : Nat} (ha : i < a.length) (hb : i < b.length) : cmp (a.drop i) (b.drop i) =
  (if (rd_T121 a (i : Int)).f0 = (rd_T121 b (i : Int)).f0 ∧ (rd_T121 a (i : Int)).f1 = (rd_T121 b (i : Int)).f1 then cmp (a.drop (i + 1)) (b.drop (i + 1)) else
   if (rd_T121 a (i : Int)).f0 < (rd_T121 b (i : Int)).f0 ∨ ((rd_T121 a (i : Int)).f0 = (rd_T121 b (i : Int)).f0 ∧ (rd_T121 a (i : Int)).f1 < (rd_T121 b (i : Int)).f1) then -1 else 1) := by
 rw [rd_slot ha, rd_slot hb]; rfl
theorem cmp_refl (a : List S121) : cmp a a = 0 := by
 induction a with
 | nil => rfl
 | cons x xs ih => unfold cmp; rw [if_pos ⟨rfl, rfl⟩]; exact ih
theorem cmp_zero {a b : List S121} (h : cmp a b = 0) : a = b := by
 induction a generalizing b with
 | nil => cases b with
  | nil => rfl
  | cons y ys => simp [cmp] at h
 | cons x xs ih => cases b with
  | nil => simp [cmp] at h
  | cons y ys =>
   unfold cmp at h
   by_cases e : x.f0 = y.f0 ∧ x.f1 = y.f1
   ·rw [if_pos e] at h
    rw [ih h]
    obtain ⟨x0, x1⟩ := x; obtain ⟨y0, y1⟩ := y
    obtain ⟨e0, e1⟩ := e
    simp only at e0 e1
    rw [e0, e1]
   ·rw [if_neg e] at h; split at h <;> omega
theorem cmp_neg (a b : List S121) : cmp b a = - cmp a b := by
 induction a generalizing b with
 | nil => cases b <;> rfl
 | cons x xs ih => cases b with
  | nil => rfl
  | cons y ys =>
   unfold cmp
   by_cases e : x.f0 = y.f0 ∧ x.f1 = y.f1
   ·rw [if_pos e, if_pos ⟨e.1.symm, e.2.symm⟩]; exact ih ys
   ·rw [if_neg e, if_neg (fun q => e ⟨q.1.symm, q.2.symm⟩)]
    by_cases l : x.f0 < y.f0 ∨ (x.f0 = y.f0 ∧ x.f1 < y.f1)
    ·rw [if_pos l, if_neg (by omega)]; rfl
    ·rw [if_neg l, if_pos (by omega)]
theorem cmp_three (a b : List S121) : cmp a b = -1 ∨ cmp a b = 0 ∨ cmp a b = 1 := by
 induction a generalizing b with
 | nil => cases b <;> simp [cmp]
 | cons x xs ih => cases b with
  | nil => simp [cmp]
  | cons y ys =>
   unfold cmp
   split
   ·exact ih ys
   ·split <;> simp
theorem impl_cmp_l (a b : List S121) (hb : b.length ≤ 4611686018427387904) : ∀ k i, i ≤ min a.length b.length → min a.length b.length - i < k → impl_placeCmp.l0 k a b ((min a.length b.length : Nat) : Int) (i : Int) = some (cmp (a.drop i) (b.drop i)) := by
 refine loop_up (fun k i => impl_placeCmp.l0 k a b ((min a.length b.length : Nat) : Int) (i : Int) = some (cmp (a.drop i) (b.drop i))) ?_ ?_
 ·intro k
  simp only [impl_placeCmp.l0]
  rw [if_neg (by omega), cmp_end _ rfl]
  repeat' split
  all_goals rfl
 ·intro k i hi ih
  have ha' : i < a.length := by omega
  have hb' : i < b.length := by omega
  simp only [impl_placeCmp.l0]
  rw [if_pos (by omega), if_pos (by omega), if_pos (by omega), if_pos (by omega), wnext hi (by omega), ih, cmp_next ha' hb']
  generalize rd_T121 a (i : Int) = x
  generalize rd_T121 b (i : Int) = y
  by_cases e : x.f0 = y.f0 ∧ x.f1 = y.f1
  ·rw [if_pos e, if_pos (by simp [e])]
  ·rw [if_neg e, if_neg (by simpa using e)]
   by_cases l : x.f0 < y.f0 ∨ (x.f0 = y.f0 ∧ x.f1 < y.f1)
   ·rw [if_pos l]
    repeat' split
    all_goals first
     | rfl
     | (exfalso; omega)
   ·rw [if_neg l]
    repeat' split
    all_goals first
     | rfl
     | (exfalso; omega)
theorem impl_cmp_at (a b : List S121) (hb : b.length ≤ 4611686018427387904) (k : Nat) (hk : min a.length b.length < k) : impl_placeCmp.f k a b = some (cmp a b) := by
 have := impl_cmp_l a b hb k 0 (by omega) (by omega)
 unfold impl_placeCmp.f
 rw [show mn (a.length : Int) (b.length : Int) = ((min a.length b.length : Nat) : Int) by unfold mn; split <;> omega]
 exact this
theorem spec_cmp_l (a b : List S121) (hb : b.length ≤ 4611686018427387904) (ha : a.length ≤ 4611686018427387904) : ∀ d i k, min a.length b.length - i = d → i ≤ min a.length b.length → 3 * d + 2 ≤ k → spec_comparePlaces.l0 k a b (i : Int) = some (cmp (a.drop i) (b.drop i)) := by
 intro d
 induction d with
 | zero =>
  intro i k hd hi hk
  obtain ⟨k, rfl⟩ : ∃ m, k = m + 2 := ⟨k - 2, by omega⟩
  have he : i = min a.length b.length := by omega
  have hj : spec_comparePlaces.j1 (k + 1) a b (i : Int) false = some (cmp (a.drop i) (b.drop i)) := by
   simp only [spec_comparePlaces.j1]
   rw [if_neg (by simp), cmp_end i he]
   repeat' split
   all_goals rfl
  simp only [spec_comparePlaces.l0]
  by_cases h1 : (i : Int) < (a.length : Int)
  ·rw [if_pos h1, decide_eq_false (by omega : ¬ (i : Int) < (b.length : Int))]; exact hj
  ·rw [if_neg h1]; exact hj
 | succ d ih =>
  intro i k hd hi hk
  obtain ⟨k, rfl⟩ : ∃ m, k = m + 3 := ⟨k - 3, by omega⟩
  have ha' : i < a.length := by omega
  have hb' : i < b.length := by omega
  have hn := ih (i + 1) k (by omega) (by omega) (by omega)
  simp only [spec_comparePlaces.l0]
  rw [if_pos (by omega), decide_eq_true (by omega : (i : Int) < (b.length : Int))]
  simp only [spec_comparePlaces.j1]
  rw [if_pos trivial, if_pos (by omega), if_pos (by omega), if_pos (by omega), cmp_next ha' hb']
  simp only [spec_comparePlaces.j2]
  rw [wnext (n := b.length) hb' hb, hn]
  simp only [show (0 : Int) ≤ (i : Int) from by omega, show (i : Int) < (a.length : Int) from by omega, show (i : Int) < (b.length : Int) from by omega, if_true]
  generalize rd_T121 a (i : Int) = x
  generalize rd_T121 b (i : Int) = y
  by_cases e : x.f0 = y.f0 ∧ x.f1 = y.f1
  ·obtain ⟨e0, e1⟩ := e
   simp [e0, e1]
  ·rw [if_neg e]
   have hne : (!(x.f0 == y.f0) || !(x.f1 == y.f1)) = true := by
    rw [Bool.or_eq_true, Bool.not_eq_true', Bool.not_eq_true', beq_eq_false_iff_ne, beq_eq_false_iff_ne]
    by_cases h0 : x.f0 = y.f0
    ·exact Or.inr fun h1 => e ⟨h0, h1⟩
    ·exact Or.inl h0
   rw [hne]
   by_cases l : x.f0 < y.f0 ∨ (x.f0 = y.f0 ∧ x.f1 < y.f1)
   ·rw [if_pos l]
    by_cases l0 : x.f0 < y.f0
    ·simp [l0]
    ·obtain ⟨e0, e1⟩ : x.f0 = y.f0 ∧ x.f1 < y.f1 := by omega
     simp [e0, e1]
   ·rw [if_neg l]
    have l0 : ¬ x.f0 < y.f0 := by omega
    by_cases e0 : x.f0 = y.f0
    ·have l1 : ¬ x.f1 < y.f1 := by omega
     simp [e0, l1]
    ·simp [l0, e0]
theorem spec_cmp_at (a b : List S121) (ha : a.length ≤ 4611686018427387904) (hb : b.length ≤ 4611686018427387904) (k : Nat) (hk : 3 * min a.length b.length + 2 ≤ k) : spec_comparePlaces.f k a b = some (cmp a b) := by
 have := spec_cmp_l a b hb ha _ 0 k rfl (by omega) (by omega)
 unfold spec_comparePlaces.f
 exact this
def vOkS (x : S124) : Bool := vOk x.f0 x.f1 x.f2
def vsOk (l : List S124) : Bool := l.all vOkS
theorem rd_val {l : List S124} {i : Nat} (h : i < l.length) : rd_T124 l (i : Int) = l[i] := getD_at z124 h
theorem spec_vals_at (l : List S124) (hl : l.length ≤ 4611686018427387904) (m : Nat) (hm : ∀ x ∈ l, x.f2.size < m) (hm' : m ≤ 4611686018427387904) (k : Nat) (hk : l.length + m < k) : spec_validValues.f k l = some (vsOk l) := by
 unfold spec_validValues.f
 rw [all_loop l (fun k i => spec_validValues.l0 k l i) vOkS true m 1 (by omega)
  (fun k _ => by simp only [spec_validValues.l0]; rw [if_neg (by omega)])
  (fun k i h hk => by
   have hx := hm _ (List.getElem_mem h)
   simp only [spec_validValues.l0]
   rw [if_pos (by omega), if_pos (by omega), rd_val h, spec_val_at _ _ _ (by omega) k (by omega), bsome, wnext h hl]; rfl) k (by omega)]
 unfold vsOk; simp
theorem impl_vals_at (l : List S124) (hl : l.length ≤ 4611686018427387904) (m : Nat) (hm : ∀ x ∈ l, x.f2.size < m) (hm' : m ≤ 4611686018427387904) (k : Nat) (hk : l.length + m < k) : impl_valsOk.f k l = some (vsOk l) := by
 unfold impl_valsOk.f
 rw [all_loop l (fun k i => impl_valsOk.l0 k l (l.length : Int) i) vOkS true m 1 (by omega)
  (fun k _ => by simp only [impl_valsOk.l0]; rw [if_neg (by omega)])
  (fun k i h hk => by
   have hx := hm _ (List.getElem_mem h)
   simp only [impl_valsOk.l0]
   rw [if_pos (by omega), if_pos (by omega), if_pos (by omega), rd_val h, impl_valOk_at _ _ _ (by omega) k (by omega), bsome, wnext h hl]; rfl) k (by omega)]
 unfold vsOk; simp
def cellOk (x : S95) : Bool := plOk x.f0 && (decide (x.f1.length ≤ 3) && vsOk x.f1)
def cellsOk : Option (List S121) → List S95 → Bool
 | _, [] => true
 | p, c :: cs => (cellOk c && (match p with | none => true | some q => decide (cmp q c.f0 < 0))) && cellsOk (some c.f0) cs
theorem cellsOk_cons (p : Option (List S121)) (c : S95) (cs : List S95) : cellsOk p (c :: cs) = ((cellOk c && (match p with | none => true | some q => decide (cmp q c.f0 < 0))) && cellsOk (some c.f0) cs) := by cases p <;> rfl
def storeOk (l : List S95) : Bool := cellsOk none l && decide (l.length ≤ 200)
theorem rd_cell {l : List S95} {i : Nat} (h : i < l.length) : rd_T95 l (i : Int) = l[i] := getD_at z95 h
def CB (M : Nat) (c : S95) : Prop := c.f0.length ≤ M ∧ c.f1.length ≤ M ∧ ∀ v ∈ c.f1, v.f2.size ≤ M
theorem wprev {i : Nat} (h : 0 < i) (hi : i ≤ 4611686018427387904) : wrap64 ((i : Int) - 1) = ((i - 1 : Nat) : Int) := by
 rw [w64 (by omega) (by omega)]; omega
theorem spec_store_at (l : List S95) (hl : l.length ≤ 4611686018427387904) (M : Nat) (hM : M ≤ 1073741824) (hc : ∀ c ∈ l, CB M c) (k : Nat) (hk : l.length + (3 * M + 10) < k) : spec_validStore.f k l = some (storeOk l) := by
 have key := loop_s (n := l.length) (m := 3 * M + 10) (s := 1) (by omega) (fun k i => ∀ p, (i = 0 → p = none) → (∀ (h : 0 < i) (h' : i - 1 < l.length), p = some l[i - 1].f0) → spec_validStore.l0 k l (i : Int) = some (cellsOk p (l.drop i)))
  (fun k _ p _ _ => by simp only [spec_validStore.l0]; rw [if_neg (by omega), List.drop_length]; rfl)
  (fun k i h hk ih p h0 h1 => by
   obtain ⟨c0, c1, c2⟩ := hc _ (List.getElem_mem h)
   have ih' := ih (some l[i].f0) (by omega) (fun _ _ => by simp)
   simp only [spec_validStore.l0]
   rw [if_pos (by omega), if_pos (by omega), rd_cell h, drop_cons h, wnext h hl, ih']
   rw [spec_place_at _ (by omega) k (by omega), bsome, spec_vals_at l[i].f1 (by omega) (M + 1) (fun v hv => by have := c2 v hv; omega) (by omega) k (by omega), bsome]
   rw [cellsOk_cons]
   generalize hR : cellsOk (some l[i].f0) (l.drop (i + 1)) = R
   unfold cellOk
   cases hp : plOk l[i].f0
   ·simp
   by_cases hlen : l[i].f1.length ≤ 3
   ·rw [if_pos rfl, if_neg (by omega)]
    cases hv : vsOk l[i].f1
    ·simp
    rw [if_pos rfl]
    by_cases hi : i = 0
    ·subst hi
     rw [if_neg (by omega), h0 rfl]; simp [hlen]
    ·rw [if_pos (by omega), wprev (by omega) (by omega), if_pos (by omega), if_pos (by omega), rd_cell (by omega), h1 (by omega) (by omega)]
     have hlt : i - 1 < l.length := by omega
     obtain ⟨d0, d1, d2⟩ := hc _ (List.getElem_mem hlt)
     rw [spec_cmp_at _ _ (by omega) (by omega) k (by omega), bsome]
     by_cases hcm : cmp l[i - 1].f0 l[i].f0 < 0
     ·rw [if_neg (by omega)]; simp [hlen, hcm]
     ·rw [if_pos (by omega)]; simp [hcm]
   ·rw [if_pos rfl, if_pos (by omega)]; simp [hlen]) l.length 0 k (by omega) (by omega) (by omega) none (fun _ => rfl) (fun h _ => by omega)
 unfold spec_validStore.f storeOk
 by_cases h : (l.length : Int) > 200
 ·rw [if_pos h, show decide (l.length ≤ 200) = false from decide_eq_false (by omega), Bool.and_false]
 ·rw [if_neg h, show decide (l.length ≤ 200) = true from decide_eq_true (by omega), Bool.and_true]; exact key
theorem impl_store_at (l : List S95) (hl : l.length ≤ 4611686018427387904) (M : Nat) (hM : M ≤ 1073741824) (hc : ∀ c ∈ l, CB M c) (k : Nat) (hk : l.length + (3 * M + 10) < k) : impl_StoreOk.f k l = some (storeOk l) := by
 have key := loop_s (n := l.length) (m := 3 * M + 10) (s := 1) (by omega) (fun k i => ∀ p, (i = 0 → p = none) → (∀ (h : 0 < i) (h' : i - 1 < l.length), p = some l[i - 1].f0) → impl_StoreOk.l0 k l l (l.length : Int) (i : Int) = some (cellsOk p (l.drop i) && decide (l.length ≤ 200)))
  (fun k _ p _ _ => by
   simp only [impl_StoreOk.l0]; rw [if_neg (by omega), List.drop_length]
   unfold cellsOk; rw [Bool.true_and]; congr 1; exact decide_eq_decide.mpr (by omega))
  (fun k i h hk ih p h0 h1 => by
   obtain ⟨c0, c1, c2⟩ := hc _ (List.getElem_mem h)
   have ih' := ih (some l[i].f0) (by omega) (fun _ _ => by simp)
   simp only [impl_StoreOk.l0]
   rw [if_pos (by omega), if_pos (by omega), if_pos (by omega), rd_cell h, drop_cons h, wnext h hl, ih']
   rw [impl_place_at _ (by omega) k (by omega), bsome, impl_vals_at l[i].f1 (by omega) (M + 1) (fun v hv => by have := c2 v hv; omega) (by omega) k (by omega), bsome]
   rw [cellsOk_cons]
   generalize hR : cellsOk (some l[i].f0) (l.drop (i + 1)) = R
   unfold cellOk
   cases hp : plOk l[i].f0
   ·simp
   by_cases hlen : l[i].f1.length ≤ 3
   ·rw [if_pos rfl, if_neg (by omega)]
    cases hv : vsOk l[i].f1
    ·simp
    rw [if_pos rfl]
    by_cases hi : i = 0
    ·subst hi
     rw [if_neg (by omega), h0 rfl]; simp [hlen]
    ·rw [if_pos (by omega), wprev (by omega) (by omega), if_pos (by omega), if_pos (by omega), rd_cell (by omega), h1 (by omega) (by omega)]
     have hlt : i - 1 < l.length := by omega
     obtain ⟨d0, d1, d2⟩ := hc _ (List.getElem_mem hlt)
     rw [impl_cmp_at _ _ (by omega) k (by omega), bsome]
     by_cases hcm : cmp l[i - 1].f0 l[i].f0 < 0
     ·rw [if_neg (by omega)]; simp [hlen, hcm]
     ·rw [if_pos (by omega)]; simp [hcm]
   ·rw [if_pos rfl, if_pos (by omega)]; simp [hlen]) l.length 0 k (by omega) (by omega) (by omega) none (fun _ => rfl) (fun h _ => by omega)
 unfold impl_StoreOk.f storeOk
 exact key
def valZ (x : S126) : Bool := x.f2.f0 == 0 && (x.f2.f1 == 0 && (x.f2.f2.toList == ([] : List UInt8)))
def numOk (x : S126) (p s t : Int) : Bool :=
 if x.f0 = 1 then decide (0 ≤ x.f1 ∧ x.f1 ≤ p - 1) else if x.f0 = 2 then decide (0 ≤ x.f1 ∧ x.f1 ≤ s - 1) else if x.f0 = 3 then decide (0 ≤ x.f1 ∧ x.f1 ≤ t - 1)
 else if x.f0 = 4 then decide (0 ≤ x.f1 ∧ x.f1 ≤ 1) else if x.f0 = 5 then decide (0 ≤ x.f1 ∧ x.f1 ≤ 6) else if x.f0 = 6 then decide (x.f1 = 0) else false
def stOk (x : S126) (p s t : Int) : Bool := if x.f0 = 0 then (decide (x.f1 = 0) && vOk x.f2.f0 x.f2.f1 x.f2.f2) else (valZ x && numOk x p s t)
def takesN (x : S126) : Int := if x.f0 = 5 then 2 else if x.f0 = 6 then 3 else 0
def fits (p s t : Int) : List S126 → Int → Bool
 | [], n => n == 1
 | x :: xs, n => if stOk x p s t = true ∧ takesN x ≤ n then fits p s t xs (n - takesN x + 1) else false
def formOk (l : List S126) (p s t : Int) : Bool := fits p s t l 0 && decide (l.length ≤ 9)
theorem takesN_in (x : S126) : 0 ≤ takesN x ∧ takesN x ≤ 3 := by
 unfold takesN
 repeat' split
 all_goals omega
theorem rd_step {l : List S126} {i : Nat} (h : i < l.length) : rd_T126 l (i : Int) = l[i] := getD_at z126 h
theorem takes_at (x : S126) : spec_takes.f x.f0 x.f1 x.f2.f0 x.f2.f1 x.f2.f2 = some (takesN x) := by
 unfold spec_takes.f takesN; repeat' split
 all_goals rfl
theorem validStep_at' (x : S126) (p s t : Int) (hp : 0 ≤ p ∧ p ≤ 1000) (hq : 0 ≤ s ∧ s ≤ 1000) (ht : 0 ≤ t ∧ t ≤ 1000) (hs : x.f2.f2.size ≤ 4611686018427387904) (k : Nat) (hk : x.f2.f2.size < k) :
  spec_validStep.f k x.f0 x.f1 x.f2.f0 x.f2.f1 x.f2.f2 p s t = some (stOk x p s t) := by
 unfold spec_validStep.f stOk numOk
 rw [w64 (n := p - 1) (by omega) (by omega), w64 (n := s - 1) (by omega) (by omega), w64 (n := t - 1) (by omega) (by omega)]
 simp only [inRange_at, spec_val_at _ _ _ hs k hk, bsome]
 have hz : (x.f2.f0 == 0 && (x.f2.f1 == 0 && (x.f2.f2.toList == ([] : List UInt8)))) = valZ x := rfl
 rw [hz]
 by_cases e0 : x.f0 = 0
 ·rw [if_pos e0, if_pos e0]
  by_cases e : x.f1 = 0 <;> simp [e]
 rw [if_neg e0, if_neg e0]
 have fin : ∀ b : Bool, (if b = true then some (valZ x) else some false) = some (valZ x && b) := by intro b; cases b <;> simp
 by_cases e1 : x.f0 = 1
 ·rw [if_pos e1, if_pos e1, fin]
 rw [if_neg e1, if_neg e1]
 by_cases e2 : x.f0 = 2
 ·rw [if_pos e2, if_pos e2, fin]
 rw [if_neg e2, if_neg e2]
 by_cases e3 : x.f0 = 3
 ·rw [if_pos e3, if_pos e3, fin]
 rw [if_neg e3, if_neg e3]
 by_cases e4 : x.f0 = 4
 ·rw [if_pos e4, if_pos e4, fin]
 rw [if_neg e4, if_neg e4]
 by_cases e5 : x.f0 = 5
 ·rw [if_pos e5, if_pos e5, fin]
 rw [if_neg e5, if_neg e5]
 by_cases e6 : x.f0 = 6
 ·rw [if_pos e6, if_pos e6]
  by_cases e : x.f1 = 0 <;> simp [e]
 rw [if_neg e6, if_neg e6]; simp
theorem spec_form_at (l : List S126) (p s t : Int) (hp : 0 ≤ p ∧ p ≤ 1000) (hq : 0 ≤ s ∧ s ≤ 1000) (ht : 0 ≤ t ∧ t ≤ 1000) (hl : l.length ≤ 2097152) (m : Nat) (hm : ∀ x ∈ l, x.f2.f2.size < m) (hm' : m ≤ 4611686018427387904) (k : Nat) (hk : l.length + m < k) :
  spec_validForm.f k l p s t = some (formOk l p s t) := by
 have key := loop_s (n := l.length) (m := m) (s := 1) (by omega) (fun k i => ∀ n : Int, 0 ≤ n → n ≤ i → spec_validForm.l0 k l p s t n (i : Int) = some (fits p s t (l.drop i) n))
  (fun k _ n h0 h1 => by simp only [spec_validForm.l0]; rw [if_neg (by omega), List.drop_length]; rfl)
  (fun k i h hk ih n h0 h1 => by
   have hx := hm _ (List.getElem_mem h)
   simp only [spec_validForm.l0]
   rw [if_pos (by omega), if_pos (by omega), rd_step h, drop_cons h]
   generalize l[i] = x at *
   simp only [validStep_at' x p s t hp hq ht (by omega) k (by omega), takes_at, bsome]
   have ht := takesN_in x
   rw [w64 (n := n - takesN x) (by omega) (by omega), w64 (n := n - takesN x + 1) (by omega) (by omega), wnext h (by omega)]
   unfold fits
   cases hst : stOk x p s t
   ·simp
   ·simp only [if_true, true_and]
    by_cases hn : n < takesN x
    ·rw [if_pos hn, if_neg (by omega)]
    ·rw [if_neg hn, if_pos (by omega)]; exact ih _ (by omega) (by omega)) l.length 0 k (by omega) (by omega) (by omega) 0 (by omega) (by omega)
 unfold spec_validForm.f formOk
 by_cases h : (l.length : Int) > 9
 ·rw [if_pos h, show decide (l.length ≤ 9) = false from decide_eq_false (by omega), Bool.and_false]
 ·rw [if_neg h, show decide (l.length ≤ 9) = true from decide_eq_true (by omega), Bool.and_true]; exact key
theorem impl_form_at (l : List S126) (p s t : Int) (hp : 0 ≤ p ∧ p ≤ 1000) (hq : 0 ≤ s ∧ s ≤ 1000) (ht : 0 ≤ t ∧ t ≤ 1000) (hl : l.length ≤ 2097152) (m : Nat) (hm : ∀ x ∈ l, x.f2.f2.size < m) (hm' : m ≤ 4611686018427387904) (k : Nat) (hk : l.length * 2 + m < k) :
  impl_formFits.f k l p s t = some (formOk l p s t) := by
 have key := loop_s (n := l.length) (m := m) (s := 2) (by omega) (fun k i => ∀ n : Int, 0 ≤ n → n ≤ i → impl_formFits.l0 k l p s t n l (l.length : Int) (i : Int) = some (fits p s t (l.drop i) n && decide (l.length ≤ 9)))
  (fun k _ n h0 h1 => by
   simp only [impl_formFits.l0]; rw [if_neg (by omega), List.drop_length]
   unfold fits
   by_cases e : n = 1
   ·rw [if_pos e, e]; simp; omega
   ·rw [if_neg e]; simp [e])
  (fun k i h hk ih n h0 h1 => by
   have hx := hm _ (List.getElem_mem h)
   simp only [impl_formFits.l0]
   rw [if_pos (by omega), if_pos (by omega), if_pos (by omega), rd_step h, drop_cons h]
   generalize l[i] = x at *
   simp only [impl_formFits.j1, within_at, impl_valOk_at _ _ _ (show x.f2.f2.size ≤ 4611686018427387904 by omega) k (by omega), bsome, wnext h (show l.length ≤ 4611686018427387904 by omega)]
   rw [w64 (n := p - 1) (by omega) (by omega), w64 (n := s - 1) (by omega) (by omega), w64 (n := t - 1) (by omega) (by omega), w64 (n := n + (1 - 0)) (by omega) (by omega), w64 (n := n + (1 - 2)) (by omega) (by omega), w64 (n := n + (1 - 3)) (by omega) (by omega)]
   have hz : (!(x.f2.f0 == 0) || (!(x.f2.f1 == 0) || (!(x.f2.f2.toList == ([] : List UInt8))))) = !valZ x := by unfold valZ; rw [Bool.not_and, Bool.not_and]
   rw [hz]
   have step : ∀ (b : Bool) (c : Int), takesN x = c → (stOk x p s t = b) → (if b = true then (if n < c then some false else impl_formFits.l0 k l p s t (n + (1 - c)) l (l.length : Int) ((i + 1 : Nat) : Int)) else some false) = some (fits p s t (x :: l.drop (i + 1)) n && decide (l.length ≤ 9)) := by
    intro b c hc hb
    subst hc; subst hb
    have ht := takesN_in x
    unfold fits
    cases hst : stOk x p s t
    ·simp
    ·simp only [if_true, true_and]
     by_cases hn : n < takesN x
     ·rw [if_pos hn, if_neg (by omega)]; simp
     ·rw [if_neg hn, if_pos (by omega), show n + (1 - takesN x) = n - takesN x + 1 by omega]; exact ih _ (by omega) (by omega)
   by_cases e0 : x.f0 = 0
   ·rw [if_pos e0, if_neg (by simp), if_pos e0]
    rw [← step (decide (x.f1 = 0) && vOk x.f2.f0 x.f2.f1 x.f2.f2) 0 (by unfold takesN; rw [if_neg (by omega), if_neg (by omega)]) (by unfold stOk; rw [if_pos e0])]
    by_cases e : x.f1 = 0 <;> simp [e]
   rw [if_neg e0]
   cases hv : valZ x with
   | false =>
    rw [if_pos (show (!false) = true from rfl)]
    have : stOk x p s t = false := by unfold stOk; rw [if_neg e0, hv]; rfl
    rw [← step false (takesN x) rfl this]; simp
   | true =>
    rw [if_neg (by simp), if_neg e0]
    have hst : stOk x p s t = numOk x p s t := by unfold stOk; rw [if_neg e0, hv]; rfl
    by_cases e1 : x.f0 = 1
    ·rw [if_pos e1]; exact step _ 0 (by unfold takesN; rw [if_neg (by omega), if_neg (by omega)]) (by rw [hst]; unfold numOk; rw [if_pos e1])
    rw [if_neg e1]
    by_cases e2 : x.f0 = 2
    ·rw [if_pos e2]; exact step _ 0 (by unfold takesN; rw [if_neg (by omega), if_neg (by omega)]) (by rw [hst]; unfold numOk; rw [if_neg e1, if_pos e2])
    rw [if_neg e2]
    by_cases e3 : x.f0 = 3
    ·rw [if_pos e3]; exact step _ 0 (by unfold takesN; rw [if_neg (by omega), if_neg (by omega)]) (by rw [hst]; unfold numOk; rw [if_neg e1, if_neg e2, if_pos e3])
    rw [if_neg e3]
    by_cases e4 : x.f0 = 4
    ·rw [if_pos e4]; exact step _ 0 (by unfold takesN; rw [if_neg (by omega), if_neg (by omega)]) (by rw [hst]; unfold numOk; rw [if_neg e1, if_neg e2, if_neg e3, if_pos e4])
    rw [if_neg e4]
    by_cases e5 : x.f0 = 5
    ·rw [if_pos e5]; exact step _ 2 (by unfold takesN; rw [if_pos e5]) (by rw [hst]; unfold numOk; rw [if_neg e1, if_neg e2, if_neg e3, if_neg e4, if_pos e5])
    rw [if_neg e5]
    by_cases e6 : x.f0 = 6
    ·rw [if_pos e6, ← step (decide (x.f1 = 0)) 3 (by unfold takesN; rw [if_neg e5, if_pos e6]) (by rw [hst]; unfold numOk; rw [if_neg e1, if_neg e2, if_neg e3, if_neg e4, if_neg e5, if_pos e6])]
     by_cases e : x.f1 = 0 <;> simp [e]
    rw [if_neg e6]
    rw [← step false (takesN x) rfl (by rw [hst]; unfold numOk; rw [if_neg e1, if_neg e2, if_neg e3, if_neg e4, if_neg e5, if_neg e6])]; simp) l.length 0 k (by omega) (by omega) (by omega) 0 (by omega) (by omega)
 unfold impl_formFits.f formOk
 exact key
def uOk (w : List S121) (st : Int) (f : List S126) (ln : Int) : Bool := plOk w && (decide (0 ≤ st ∧ st ≤ 2) && (decide (-1 ≤ ln ∧ ln ≤ 2) && formOk f 0 3 0))
theorem spec_upd_at (w : List S121) (st : Int) (f : List S126) (ln : Int) (hw : w.length ≤ 2097152) (hf : f.length ≤ 2097152) (hm : ∀ x ∈ f, x.f2.f2.size < 2097152) (k : Nat) (hk : 8388608 ≤ k) : spec_validUpdate.f k w st f ln = some (uOk w st f ln) := by
 unfold spec_validUpdate.f uOk
 simp only [inRange_at, spec_place_at w (by omega) k (by omega), spec_form_at f 0 3 0 (by omega) (by omega) (by omega) hf 2097152 hm (by omega) k (by omega), bsome, decide_eq_true_eq]
 cases plOk w <;> by_cases h1 : 0 ≤ st ∧ st ≤ 2 <;> by_cases h2 : -1 ≤ ln ∧ ln ≤ 2 <;> simp [h1, h2]
theorem impl_formOk_030 (f : List S126) (hf : f.length ≤ 2097152) (hm : ∀ x ∈ f, x.f2.f2.size < 2097152) (k : Nat) (hk : 8388608 ≤ k) : impl_FormOk.f k f 0 3 0 = some (formOk f 0 3 0) := by
 unfold impl_FormOk.f
 simp only [within_at, impl_form_at f 0 3 0 (by omega) (by omega) (by omega) hf 2097152 hm (by omega) k (by omega), bsome]
 simp
theorem impl_upd_at (w : List S121) (st : Int) (f : List S126) (ln : Int) (hw : w.length ≤ 2097152) (hf : f.length ≤ 2097152) (hm : ∀ x ∈ f, x.f2.f2.size < 2097152) (k : Nat) (hk : 8388608 ≤ k) : impl_UpdateOk.f k w st f ln = some (uOk w st f ln) := by
 unfold impl_UpdateOk.f uOk
 simp only [within_at, impl_place_at w (by omega) k (by omega), impl_formOk_030 f hf hm k hk, bsome, decide_eq_true_eq]
 cases plOk w <;> by_cases h1 : 0 ≤ st ∧ st ≤ 2 <;> by_cases h2 : -1 ≤ ln ∧ ln ≤ 2 <;> simp [h1, h2]
def updOk (u : S53) : Bool := uOk u.f0 u.f1 u.f2 u.f3
def UB (M : Nat) (u : S53) : Prop := u.f0.length ≤ M ∧ u.f2.length ≤ M ∧ ∀ x ∈ u.f2, x.f2.f2.size ≤ M
theorem rd_upd {l : List S53} {i : Nat} (h : i < l.length) : rd_T53 l (i : Int) = l[i] := getD_at z53 h
theorem spec_upds_at (l : List S53) (hl : l.length ≤ 1073741824) (hc : ∀ u ∈ l, UB 2097151 u) (k : Nat) (hk : l.length + 8388610 < k) : spec_validUpdates.f k l = some (decide (l.length ≤ 40) && l.all updOk) := by
 unfold spec_validUpdates.f
 by_cases h : (l.length : Int) > 40
 ·rw [if_pos h, show decide (l.length ≤ 40) = false from decide_eq_false (by omega), Bool.false_and]
 rw [if_neg h, show decide (l.length ≤ 40) = true from decide_eq_true (by omega), Bool.true_and]
 have := all_loop l (fun k i => spec_validUpdates.l0 k l i) updOk true 8388608 1 (by omega)
  (fun k _ => by simp only [spec_validUpdates.l0]; rw [if_neg (by omega)])
  (fun k i h hk => by
   obtain ⟨c0, c1, c2⟩ := hc _ (List.getElem_mem h)
   simp only [spec_validUpdates.l0]
   rw [if_pos (by omega), if_pos (by omega), rd_upd h, spec_upd_at _ _ _ _ (by omega) (by omega) (fun x hx => by have := c2 x hx; omega) k (by omega), bsome, wnext h (by omega)]
   show (if updOk l[i] = true then _ else _) = _
   rfl) k (by omega)
 rw [Bool.and_true] at this; exact this
theorem impl_upds_at (l : List S53) (hl : l.length ≤ 1073741824) (hc : ∀ u ∈ l, UB 2097151 u) (k : Nat) (hk : l.length + 8388610 < k) : impl_updatesOk.f k l = some (l.all updOk) := by
 unfold impl_updatesOk.f
 have := all_loop l (fun k i => impl_updatesOk.l0 k l (l.length : Int) i) updOk true 8388608 1 (by omega)
  (fun k _ => by simp only [impl_updatesOk.l0]; rw [if_neg (by omega)])
  (fun k i h hk => by
   obtain ⟨c0, c1, c2⟩ := hc _ (List.getElem_mem h)
   simp only [impl_updatesOk.l0]
   rw [if_pos (by omega), if_pos (by omega), if_pos (by omega), rd_upd h, impl_upd_at _ _ _ _ (by omega) (by omega) (fun x hx => by have := c2 x hx; omega) k (by omega), bsome, wnext h (by omega)]
   show (if updOk l[i] = true then _ else _) = _
   rfl) k (by omega)
 rw [Bool.and_true] at this; exact this
def cSlot (x : S123) : S121 := ⟨x.f0, x.f1⟩
theorem rd_lslot {l : List S123} {i : Nat} (h : i < l.length) : l.drop i = rd_T123 l (i : Int) :: l.drop (i + 1) := drop_at z123 h
theorem set_mid {α : Type} (p : List α) (a b : α) (r : List α) (n : Nat) (h : n = p.length) : (p ++ a :: r).set n b = p ++ b :: r := by subst h; simp
theorem toSlotS_l (l : List S123) (hl : l.length ≤ 4611686018427387904) (z : S121) : ∀ k i, i ≤ l.length → l.length - i < k → ∀ p, p.length = i → laws_toSlotS.l0 k l (p ++ List.replicate (l.length - i) z) (i : Int) = some (p ++ (l.drop i).map cSlot) := by
 refine loop_up (fun k i => ∀ p, p.length = i → laws_toSlotS.l0 k l (p ++ List.replicate (l.length - i) z) (i : Int) = some (p ++ (l.drop i).map cSlot)) ?_ ?_
 ·intro k p hp
  simp only [laws_toSlotS.l0]
  rw [if_neg (by omega)]; simp
 ·intro k i hi ih p hp
  simp only [laws_toSlotS.l0, laws_toSlot.f]
  rw [if_pos (by omega), if_pos (by omega)]
  simp only [Option.bind_some]
  rw [if_pos (by simp; omega), show l.length - i = (l.length - (i + 1)) + 1 by omega, List.replicate_succ, set_mid _ _ _ _ _ (by omega), wnext hi hl]
  have := ih (p ++ [cSlot (rd_T123 l (i : Int))]) (by simp [hp])
  rw [List.append_assoc] at this
  rw [rd_lslot hi, List.map_cons, ← List.singleton_append, ← List.append_assoc p, List.append_assoc p]
  rw [List.append_assoc] at this
  exact this
theorem toSlotS_at (l : List S123) (hl : l.length ≤ 1048576) (k : Nat) (hk : l.length < k) : laws_toSlotS.f k l = some (l.map cSlot) := by
 unfold laws_toSlotS.f
 rw [if_pos (by omega), if_pos (by omega)]
 have := toSlotS_l l (by omega) z121 k 0 (by omega) (by omega) [] rfl
 simpa using this
theorem szSlotS_at (l : List S123) (n : Int) (hn : 0 ≤ n ∧ n ≤ 1048576) (hl : l.length ≤ maxLen) : ∃ r, laws_szSlotS.f l n = some r ∧ (0 ≤ r → r = n - l.length) ∧ r ≤ n := by
 have hm : l.length ≤ 9223372036854775807 := hl
 unfold laws_szSlotS.f
 rw [w64 (by omega) (by omega)]
 by_cases h : n - (l.length : Int) < 0
 ·rw [if_pos h]; exact ⟨_, rfl, by omega, by omega⟩
 ·rw [if_neg h]; exact ⟨_, rfl, by omega, by omega⟩
theorem eqSlot_refl (a b : Int) : laws_eqSlot.f a b a b = some true := by unfold laws_eqSlot.f; simp
theorem eqSlotS_l (l : List S121) (hl : l.length ≤ 4611686018427387904) : ∀ k i, i ≤ l.length → l.length - i < k → laws_eqSlotS.l0 k l l (i : Int) = some true := by
 refine loop_up (fun k i => laws_eqSlotS.l0 k l l (i : Int) = some true) ?_ ?_
 ·intro k
  simp only [laws_eqSlotS.l0]
  rw [if_neg (by omega)]
 ·intro k i hi ih
  simp only [laws_eqSlotS.l0]
  rw [if_pos (by omega), if_pos (by omega), if_pos (by omega), eqSlot_refl]
  simp only [Option.bind_some, wnext hi hl, ih, if_true]
theorem eqSlotS_refl (l : List S121) (hl : l.length ≤ 4611686018427387904) (k : Nat) (hk : l.length < k) : laws_eqSlotS.f k l l = some true := by
 unfold laws_eqSlotS.f
 rw [if_pos rfl]; exact eqSlotS_l l hl k 0 (by omega) (by omega)
def cValue (x : S115) : S124 := ⟨x.f0, x.f1, x.f2⟩
def cStep (x : S117) : S126 := ⟨x.f0, x.f1, cValue x.f2⟩
theorem rd_lstep {l : List S117} {i : Nat} (h : i < l.length) : rd_T117 l (i : Int) = l[i] := getD_at z117 h
theorem toStepS_at (l : List S117) (hl : l.length ≤ 1048576) (k : Nat) (hk : l.length < k) : laws_toStepS.f k l = some (l.map cStep) := by
 unfold laws_toStepS.f
 rw [if_pos (by omega), if_pos (by omega)]
 exact map_loop l (fun k acc i => laws_toStepS.l0 k l acc i) cStep z126 0 1 (by omega)
  (fun k acc _ => by simp only [laws_toStepS.l0]; rw [if_neg (by omega)])
  (fun k acc i h _ ha => by
   simp only [laws_toStepS.l0]
   rw [if_pos (by omega), if_pos (by omega), rd_lstep h]
   simp only [laws_toStep.f, laws_toValue.f, bsome]
   rw [if_pos (by omega), wnext h (by omega)]; rfl) k (by omega)
def szStep (x : S117) : Nat := x.f2.f2.size
def szSteps (l : List S117) : Nat := l.length + (l.map szStep).sum
theorem szval_at (a b : Int) (s : ByteArray) (n : Int) (hn : 0 ≤ n ∧ n ≤ 1048576) (hs : s.size ≤ maxLen) : ∃ r, laws_szValue.f a b s n = some r ∧ (0 ≤ r → r = n - s.size) ∧ r ≤ n := by
 have hm : s.size ≤ 9223372036854775807 := hs
 unfold laws_szValue.f
 rw [w64 (by omega) (by omega)]
 by_cases h : n - (s.size : Int) < 0
 ·rw [if_pos h]; exact ⟨_, rfl, by omega, by omega⟩
 ·rw [if_neg h]; exact ⟨_, rfl, by omega, by omega⟩
theorem szStepS_at (l : List S117) (hl : l.length ≤ maxLen) (hg : ∀ x ∈ l, x.f2.f2.size ≤ maxLen) (n : Int) (hn : 0 ≤ n ∧ n ≤ 1048576) (k : Nat) (hk : 1048578 < k) : ∃ r, laws_szStepS.f k l n = some r ∧ r ≤ n ∧ (0 ≤ r → r = n - szSteps l) := by
 have hm : l.length ≤ 9223372036854775807 := hl
 unfold laws_szStepS.f
 rw [w64 (by omega) (by omega)]
 by_cases h : n - (l.length : Int) < 0
 ·rw [if_pos h]; exact ⟨_, rfl, by omega, by omega⟩
 ·rw [if_neg h]
  obtain ⟨r, h1, h2, h3⟩ := sz_loop l (fun k left i => laws_szStepS.l0 k l left i) szStep 0 1 (by omega)
   (fun k left _ => by simp only [laws_szStepS.l0]; rw [if_neg (by omega)])
   (fun k left i h _ h0 h1 => by
    obtain ⟨t, t1, t2, t3⟩ := szval_at l[i].f2.f0 l[i].f2.f1 l[i].f2.f2 left ⟨h0, h1⟩ (hg _ (List.getElem_mem h))
    simp only [laws_szStepS.l0]
    rw [if_pos (by omega), if_pos (by omega), rd_lstep h]
    unfold laws_szStep.f
    rw [t1, bsome]
    by_cases ht : t < 0
    ·exact ⟨-1, by omega, by omega, by rw [if_pos ht, bsome, if_pos (by omega), if_pos (by omega)]⟩
    ·exact ⟨t, t3, t2, by rw [if_neg ht, bsome, if_neg ht, if_neg ht, wnext h (by omega)]⟩) k (n - (l.length : Int)) (by omega) (by omega) (by omega)
  refine ⟨r, h1, by omega, fun hr => ?_⟩
  have := h3 hr
  unfold szSteps
  omega
theorem szSteps_in {l : List S117} {n : Nat} (h : szSteps l ≤ n) : l.length ≤ n ∧ ∀ x ∈ l.map cStep, x.f2.f2.size < n + 1 := by
 unfold szSteps at h
 refine ⟨by omega, fun x hx => ?_⟩
 obtain ⟨y, hy, rfl⟩ := List.mem_map.1 hx
 have h1 : szStep y ≤ (l.map szStep).sum := sum_mem (sz := szStep) hy
 have h2 : szStep y = y.f2.f2.size := rfl
 show y.f2.f2.size < n + 1
 omega
theorem eqValue_refl (a b : Int) (s : ByteArray) : laws_eqValue.f a b s a b s = some true := by unfold laws_eqValue.f; simp
theorem eqStepS_refl (l : List S126) (hl : l.length ≤ 4611686018427387904) (k : Nat) (hk : l.length < k) : laws_eqStepS.f k l l = some true := by
 unfold laws_eqStepS.f
 rw [if_pos rfl]
 have := all_loop l (fun k i => laws_eqStepS.l0 k l l i) (fun _ => true) true 0 1 (by omega)
  (fun k _ => by simp only [laws_eqStepS.l0]; rw [if_neg (by omega)])
  (fun k i h _ => by
   simp only [laws_eqStepS.l0]
   rw [if_pos (by omega), if_pos (by omega), if_pos (by omega), rd_step h]
   unfold laws_eqStep.f
   simp only [eqValue_refl, bsome, if_true, wnext h hl]) k (by omega)
 rw [this]; congr 1; simp [List.all_eq_true]
theorem rd_lval {l : List S115} {i : Nat} (h : i < l.length) : rd_T115 l (i : Int) = l[i] := getD_at z115 h
theorem toValueS_at (l : List S115) (hl : l.length ≤ 1048576) (k : Nat) (hk : l.length < k) : laws_toValueS.f k l = some (l.map cValue) := by
 unfold laws_toValueS.f
 rw [if_pos (by omega), if_pos (by omega)]
 exact map_loop l (fun k acc i => laws_toValueS.l0 k l acc i) cValue z124 0 1 (by omega)
  (fun k acc _ => by simp only [laws_toValueS.l0]; rw [if_neg (by omega)])
  (fun k acc i h _ ha => by
   simp only [laws_toValueS.l0]
   rw [if_pos (by omega), if_pos (by omega), rd_lval h]
   simp only [laws_toValue.f, bsome]
   rw [if_pos (by omega), wnext h (by omega)]; rfl) k (by omega)
def szVals (l : List S115) : Nat := l.length + (l.map (fun x => x.f2.size)).sum
theorem szValueS_at (l : List S115) (hl : l.length ≤ maxLen) (hg : ∀ x ∈ l, x.f2.size ≤ maxLen) (n : Int) (hn : 0 ≤ n ∧ n ≤ 1048576) (k : Nat) (hk : 1048578 < k) : ∃ r, laws_szValueS.f k l n = some r ∧ r ≤ n ∧ (0 ≤ r → r = n - szVals l) := by
 have hm : l.length ≤ 9223372036854775807 := hl
 unfold laws_szValueS.f
 rw [w64 (by omega) (by omega)]
 by_cases h : n - (l.length : Int) < 0
 ·rw [if_pos h]; exact ⟨_, rfl, by omega, by omega⟩
 ·rw [if_neg h]
  obtain ⟨r, h1, h2, h3⟩ := sz_loop l (fun k left i => laws_szValueS.l0 k l left i) (fun x => x.f2.size) 0 1 (by omega)
   (fun k left _ => by simp only [laws_szValueS.l0]; rw [if_neg (by omega)])
   (fun k left i h _ h0 h1 => by
    obtain ⟨t, t1, t2, t3⟩ := szval_at l[i].f0 l[i].f1 l[i].f2 left ⟨h0, h1⟩ (hg _ (List.getElem_mem h))
    simp only [laws_szValueS.l0]
    rw [if_pos (by omega), if_pos (by omega), rd_lval h, t1, bsome]
    exact ⟨t, t3, t2, by rw [wnext h (by omega)]⟩) k (n - (l.length : Int)) (by omega) (by omega) (by omega)
  refine ⟨r, h1, by omega, fun hr => ?_⟩
  have := h3 hr
  unfold szVals
  omega
def cCell (x : S86) : S95 := ⟨x.f0.map cSlot, x.f1.map cValue⟩
theorem rd_lcell {l : List S86} {i : Nat} (h : i < l.length) : rd_T86 l (i : Int) = l[i] := getD_at z86 h
def szCell (x : S86) : Nat := x.f0.length + szVals x.f1
def szCells (l : List S86) : Nat := l.length + (l.map szCell).sum
theorem toCellS_at (l : List S86) (hl : szCells l ≤ 1048576) (k : Nat) (hk : 2097160 < k) : laws_toCellS.f k l = some (l.map cCell) := by
 have hlen : l.length ≤ 1048576 := by unfold szCells at hl; omega
 unfold laws_toCellS.f
 rw [if_pos (by omega), if_pos (by omega)]
 exact map_loop l (fun k acc i => laws_toCellS.l0 k l acc i) cCell z95 1048577 1 (by omega)
  (fun k acc _ => by simp only [laws_toCellS.l0]; rw [if_neg (by omega)])
  (fun k acc i h hk ha => by
   have hs : szCell l[i] ≤ 1048576 := by
    have := sum_mem (sz := szCell) (List.getElem_mem h)
    unfold szCells at hl; omega
   have hs' : l[i].f0.length + (l[i].f1.length + (l[i].f1.map (fun x => x.f2.size)).sum) ≤ 1048576 := hs
   simp only [laws_toCellS.l0]
   rw [if_pos (by omega), if_pos (by omega), rd_lcell h]
   unfold laws_toCell.f
   rw [toSlotS_at _ (by omega) k (by omega), bsome, toValueS_at _ (by omega) k (by omega), bsome, bsome]
   rw [if_pos (by omega), wnext h (by omega)]; rfl) k (by omega)
theorem szCellS_at (l : List S86) (hl : l.length ≤ maxLen) (hg : ∀ x ∈ l, x.f0.length ≤ maxLen ∧ x.f1.length ≤ maxLen ∧ ∀ v ∈ x.f1, v.f2.size ≤ maxLen) (n : Int) (hn : 0 ≤ n ∧ n ≤ 1048576) (k : Nat) (hk : 2097160 < k) : ∃ r, laws_szCellS.f k l n = some r ∧ r ≤ n ∧ (0 ≤ r → r = n - szCells l) := by
 have hm : l.length ≤ 9223372036854775807 := hl
 unfold laws_szCellS.f
 rw [w64 (by omega) (by omega)]
 by_cases h : n - (l.length : Int) < 0
 ·rw [if_pos h]; exact ⟨_, rfl, by omega, by omega⟩
 ·rw [if_neg h]
  obtain ⟨r, h1, h2, h3⟩ := sz_loop l (fun k left i => laws_szCellS.l0 k l left i) szCell 1048579 1 (by omega)
   (fun k left _ => by simp only [laws_szCellS.l0]; rw [if_neg (by omega)])
   (fun k left i h hk h0 h1 => by
    obtain ⟨g0, g1, g2⟩ := hg _ (List.getElem_mem h)
    obtain ⟨t, t1, t2, t3⟩ := szSlotS_at l[i].f0 left ⟨h0, h1⟩ g0
    simp only [laws_szCellS.l0]
    rw [if_pos (by omega), if_pos (by omega), rd_lcell h]
    unfold laws_szCell.f
    rw [t1, bsome]
    by_cases ht : t < 0
    ·exact ⟨-1, by omega, by omega, by rw [if_pos ht, bsome, if_pos (by omega), if_pos (by omega)]⟩
    ·obtain ⟨u, u1, u2, u3⟩ := szValueS_at l[i].f1 g1 g2 t (by omega) k (by omega)
     rw [if_neg ht, u1, bsome]
     by_cases hu : u < 0
     ·exact ⟨-1, by omega, by omega, by rw [if_pos hu, bsome, if_pos (by omega), if_pos (by omega)]⟩
     ·exact ⟨u, by omega, fun _ => by rw [u3 (by omega), t2 (by omega)]; unfold szCell; omega, by rw [if_neg hu, bsome, if_neg hu, if_neg hu, wnext h (by omega)]⟩) k (n - (l.length : Int)) (by omega) (by omega) (by omega)
  refine ⟨r, h1, by omega, fun hr => ?_⟩
  have := h3 hr
  unfold szCells
  omega
theorem cells_CB {l : List S86} {n : Nat} (h : szCells l ≤ n) : l.length ≤ n ∧ ∀ c ∈ l.map cCell, CB n c := by
 unfold szCells at h
 refine ⟨by omega, fun c hc => ?_⟩
 obtain ⟨y, hy, rfl⟩ := List.mem_map.1 hc
 have h1 : szCell y ≤ (l.map szCell).sum := sum_mem (sz := szCell) hy
 have h2 : szCell y = y.f0.length + (y.f1.length + (y.f1.map (fun x => x.f2.size)).sum) := rfl
 refine ⟨by show (y.f0.map cSlot).length ≤ n; rw [List.length_map]; omega, by show (y.f1.map cValue).length ≤ n; rw [List.length_map]; omega, fun v hv => ?_⟩
 obtain ⟨u, hu, rfl⟩ := List.mem_map.1 (show v ∈ y.f1.map cValue from hv)
 have h3 : u.f2.size ≤ (y.f1.map (fun x => x.f2.size)).sum := sum_mem (sz := fun x : S115 => x.f2.size) hu
 show u.f2.size ≤ n
 omega
theorem eqValueS_refl (l : List S124) (hl : l.length ≤ 4611686018427387904) (k : Nat) (hk : l.length < k) : laws_eqValueS.f k l l = some true := by
 unfold laws_eqValueS.f
 rw [if_pos rfl]
 have := all_loop l (fun k i => laws_eqValueS.l0 k l l i) (fun _ => true) true 0 1 (by omega)
  (fun k _ => by simp only [laws_eqValueS.l0]; rw [if_neg (by omega)])
  (fun k i h _ => by
   simp only [laws_eqValueS.l0]
   rw [if_pos (by omega), if_pos (by omega), if_pos (by omega), rd_val h]
   simp only [eqValue_refl, bsome, if_true, wnext h hl]) k (by omega)
 rw [this]; congr 1; simp [List.all_eq_true]
theorem eqCellS_refl (l : List S95) (hl : l.length ≤ 1073741824) (M : Nat) (hM : M ≤ 1073741824) (hc : ∀ c ∈ l, CB M c) (k : Nat) (hk : l.length + (M + 1) < k) : laws_eqCellS.f k l l = some true := by
 unfold laws_eqCellS.f
 rw [if_pos rfl]
 have := all_loop l (fun k i => laws_eqCellS.l0 k l l i) (fun _ => true) true (M + 1) 1 (by omega)
  (fun k _ => by simp only [laws_eqCellS.l0]; rw [if_neg (by omega)])
  (fun k i h hk => by
   obtain ⟨c0, c1, c2⟩ := hc _ (List.getElem_mem h)
   simp only [laws_eqCellS.l0]
   rw [if_pos (by omega), if_pos (by omega), if_pos (by omega), rd_cell h]
   unfold laws_eqCell.f
   simp only [eqSlotS_refl l[i].f0 (by omega) k (by omega), eqValueS_refl l[i].f1 (by omega) k (by omega), bsome, if_true, wnext h (show l.length ≤ 4611686018427387904 by omega)]) k (by omega)
 rw [this]; congr 1; simp [List.all_eq_true]
def cUpd (x : S45) : S53 := ⟨x.f0.map cSlot, x.f1, x.f2.map cStep, x.f3⟩
def szUpd (x : S45) : Nat := x.f0.length + szSteps x.f2
theorem szUpd_at (w : List S123) (st : Int) (f : List S117) (ln : Int) (hw : w.length ≤ maxLen) (hf : f.length ≤ maxLen) (hg : ∀ x ∈ f, x.f2.f2.size ≤ maxLen) (n : Int) (hn : 0 ≤ n ∧ n ≤ 1048576) (k : Nat) (hk : 1048578 < k) : ∃ r, laws_szUpdate.f k w st f ln n = some r ∧ r ≤ n ∧ (0 ≤ r → r = n - (w.length + szSteps f : Nat)) := by
 obtain ⟨r, hr, h1, h2⟩ := szSlotS_at w n hn hw
 unfold laws_szUpdate.f
 rw [hr, bsome]
 by_cases h : r < 0
 ·rw [if_pos h]; exact ⟨_, rfl, by omega, by omega⟩
 rw [if_neg h]
 obtain ⟨q, hq, h3, h4⟩ := szStepS_at f hf hg r (by omega) k (by omega)
 rw [hq, bsome]
 by_cases h' : q < 0
 ·rw [if_pos h']; exact ⟨_, rfl, by omega, by omega⟩
 rw [if_neg h']; exact ⟨_, rfl, by omega, fun _ => by rw [h4 (by omega), h1 (by omega)]; omega⟩
theorem toUpd_at (w : List S123) (st : Int) (f : List S117) (ln : Int) (hw : w.length ≤ 1048576) (hf : f.length ≤ 1048576) (k : Nat) (hk : 1048577 < k) : laws_toUpdate.f k w st f ln = some (w.map cSlot, st, f.map cStep, ln) := by
 unfold laws_toUpdate.f
 rw [toSlotS_at w hw k (by omega), bsome, toStepS_at f hf k (by omega), bsome]
theorem rd_lupd {l : List S45} {i : Nat} (h : i < l.length) : rd_T45 l (i : Int) = l[i] := getD_at z45 h
def szUpds (l : List S45) : Nat := l.length + (l.map szUpd).sum
theorem toUpdateS_at (l : List S45) (hl : szUpds l ≤ 1048576) (k : Nat) (hk : 2097160 < k) : laws_toUpdateS.f k l = some (l.map cUpd) := by
 have hlen : l.length ≤ 1048576 := by unfold szUpds at hl; omega
 unfold laws_toUpdateS.f
 rw [if_pos (by omega), if_pos (by omega)]
 exact map_loop l (fun k acc i => laws_toUpdateS.l0 k l acc i) cUpd z53 1048578 1 (by omega)
  (fun k acc _ => by simp only [laws_toUpdateS.l0]; rw [if_neg (by omega)])
  (fun k acc i h hk ha => by
   have hs : szUpd l[i] ≤ 1048576 := by
    have := sum_mem (sz := szUpd) (List.getElem_mem h)
    unfold szUpds at hl; omega
   have hs' : l[i].f0.length + (l[i].f2.length + (l[i].f2.map szStep).sum) ≤ 1048576 := hs
   simp only [laws_toUpdateS.l0]
   rw [if_pos (by omega), if_pos (by omega), rd_lupd h, toUpd_at _ _ _ _ (by omega) (by omega) k (by omega), bsome]
   rw [if_pos (by omega), wnext h (by omega)]; rfl) k (by omega)
theorem szUpdateS_at (l : List S45) (hl : l.length ≤ maxLen) (hg : ∀ x ∈ l, x.f0.length ≤ maxLen ∧ x.f2.length ≤ maxLen ∧ ∀ v ∈ x.f2, v.f2.f2.size ≤ maxLen) (n : Int) (hn : 0 ≤ n ∧ n ≤ 1048576) (k : Nat) (hk : 2097160 < k) : ∃ r, laws_szUpdateS.f k l n = some r ∧ r ≤ n ∧ (0 ≤ r → r = n - szUpds l) := by
 have hm : l.length ≤ 9223372036854775807 := hl
 unfold laws_szUpdateS.f
 rw [w64 (by omega) (by omega)]
 by_cases h : n - (l.length : Int) < 0
 ·rw [if_pos h]; exact ⟨_, rfl, by omega, by omega⟩
 ·rw [if_neg h]
  obtain ⟨r, h1, h2, h3⟩ := sz_loop l (fun k left i => laws_szUpdateS.l0 k l left i) szUpd 1048579 1 (by omega)
   (fun k left _ => by simp only [laws_szUpdateS.l0]; rw [if_neg (by omega)])
   (fun k left i h hk h0 h1 => by
    obtain ⟨g0, g1, g2⟩ := hg _ (List.getElem_mem h)
    obtain ⟨t, t1, t2, t3⟩ := szUpd_at l[i].f0 l[i].f1 l[i].f2 l[i].f3 g0 g1 g2 left ⟨h0, h1⟩ k (by omega)
    simp only [laws_szUpdateS.l0]
    rw [if_pos (by omega), if_pos (by omega), rd_lupd h, t1, bsome]
    exact ⟨t, t2, t3, by rw [wnext h (by omega)]⟩) k (n - (l.length : Int)) (by omega) (by omega) (by omega)
  refine ⟨r, h1, by omega, fun hr => ?_⟩
  have := h3 hr
  unfold szUpds
  omega
theorem upds_UB {l : List S45} {n : Nat} (h : szUpds l ≤ n) : l.length ≤ n ∧ ∀ c ∈ l.map cUpd, UB n c := by
 unfold szUpds at h
 refine ⟨by omega, fun c hc => ?_⟩
 obtain ⟨y, hy, rfl⟩ := List.mem_map.1 hc
 have h1 : szUpd y ≤ (l.map szUpd).sum := sum_mem (sz := szUpd) hy
 have h2 : szUpd y = y.f0.length + szSteps y.f2 := rfl
 obtain ⟨h3, h4⟩ := szSteps_in (l := y.f2) (n := n) (by omega)
 refine ⟨by show (y.f0.map cSlot).length ≤ n; rw [List.length_map]; omega, by show (y.f2.map cStep).length ≤ n; rw [List.length_map]; omega, fun v hv => ?_⟩
 have := h4 v hv; omega
theorem eqUpd_refl (w : List S121) (st : Int) (f : List S126) (ln : Int) (hw : w.length ≤ 2097152) (hf : f.length ≤ 2097152) (k : Nat) (hk : 2097153 < k) : laws_eqUpdate.f k w st f ln w st f ln = some true := by
 unfold laws_eqUpdate.f
 simp only [eqSlotS_refl w (by omega) k (by omega), eqStepS_refl f (by omega) k (by omega), bsome, if_true]
theorem eqUpdateS_refl (l : List S53) (hl : l.length ≤ 1073741824) (hc : ∀ c ∈ l, UB 2097151 c) (k : Nat) (hk : l.length + 2097154 < k) : laws_eqUpdateS.f k l l = some true := by
 unfold laws_eqUpdateS.f
 rw [if_pos rfl]
 have := all_loop l (fun k i => laws_eqUpdateS.l0 k l l i) (fun _ => true) true 2097154 1 (by omega)
  (fun k _ => by simp only [laws_eqUpdateS.l0]; rw [if_neg (by omega)])
  (fun k i h hk => by
   obtain ⟨c0, c1, c2⟩ := hc _ (List.getElem_mem h)
   simp only [laws_eqUpdateS.l0]
   rw [if_pos (by omega), if_pos (by omega), if_pos (by omega), rd_upd h]
   simp only [eqUpd_refl l[i].f0 l[i].f1 l[i].f2 l[i].f3 (by omega) (by omega) k (by omega), bsome, if_true, wnext h (show l.length ≤ 4611686018427387904 by omega)]) k (by omega)
 rw [this]; congr 1; simp [List.all_eq_true]
theorem szLine_at (b : List S86) (l : List S45) (hb : b.length ≤ maxLen) (hb' : ∀ x ∈ b, x.f0.length ≤ maxLen ∧ x.f1.length ≤ maxLen ∧ ∀ v ∈ x.f1, v.f2.size ≤ maxLen) (hl : l.length ≤ maxLen) (hl' : ∀ x ∈ l, x.f0.length ≤ maxLen ∧ x.f2.length ≤ maxLen ∧ ∀ v ∈ x.f2, v.f2.f2.size ≤ maxLen) (k : Nat) (hk : 2097160 < k) : ∃ r, laws_szLine.f k b l 1048576 = some r ∧ (0 ≤ r → szCells b ≤ 1048576 ∧ szUpds l ≤ 1048576) := by
 obtain ⟨r, hr, h1, h2⟩ := szCellS_at b hb hb' 1048576 (by omega) k hk
 unfold laws_szLine.f
 rw [hr, bsome]
 by_cases h : r < 0
 ·rw [if_pos h]; exact ⟨_, rfl, by omega⟩
 rw [if_neg h]
 have h2' := h2 (by omega)
 obtain ⟨q, hq, h3, h4⟩ := szUpdateS_at l hl hl' r (by omega) k hk
 rw [hq, bsome]
 by_cases h' : q < 0
 ·rw [if_pos h']; exact ⟨_, rfl, by omega⟩
 have h4' := h4 (by omega)
 rw [if_neg h']; exact ⟨_, rfl, fun _ => by omega⟩
theorem toLine_at (b : List S86) (l : List S45) (hb : szCells b ≤ 1048576) (hl : szUpds l ≤ 1048576) (k : Nat) (hk : 2097160 < k) : laws_toLine.f k b l = some (b.map cCell, l.map cUpd) := by
 unfold laws_toLine.f
 rw [toCellS_at b hb k hk, bsome, toUpdateS_at l hl k hk, bsome]
theorem eqLine_refl (b : List S95) (l : List S53) (hb : b.length ≤ 1048576) (hb' : ∀ c ∈ b, CB 1048576 c) (hl : l.length ≤ 1048576) (hl' : ∀ u ∈ l, UB 2097151 u) (k : Nat) (hk : 8388608 < k) : laws_eqLine.f k b l b l = some true := by
 unfold laws_eqLine.f
 simp only [eqCellS_refl b (by omega) 1048576 (by omega) hb' k (by omega), eqUpdateS_refl l (by omega) hl' k (by omega), bsome, if_true]
def lineOk (b : List S95) (l : List S53) : Bool := storeOk b && (decide (l.length ≤ 40) && l.all updOk)
theorem spec_line_at (b : List S95) (l : List S53) (hb : b.length ≤ 1048576) (hb' : ∀ c ∈ b, CB 1048576 c) (hl : l.length ≤ 1048576) (hl' : ∀ u ∈ l, UB 2097151 u) (k : Nat) (hk : 16777216 < k) : spec_validLine.f k b l = some (lineOk b l) := by
 unfold spec_validLine.f lineOk
 rw [spec_store_at b (by omega) 1048576 (by omega) hb' k (by omega), bsome, spec_upds_at l (by omega) hl' k (by omega)]
 cases storeOk b <;> simp
theorem impl_line_at (b : List S95) (l : List S53) (hb : b.length ≤ 1048576) (hb' : ∀ c ∈ b, CB 1048576 c) (hl : l.length ≤ 1048576) (hl' : ∀ u ∈ l, UB 2097151 u) (k : Nat) (hk : 16777216 < k) : impl_LineOk.f k b l = some (lineOk b l) := by
 unfold impl_LineOk.f lineOk
 rw [impl_store_at b (by omega) 1048576 (by omega) hb' k (by omega), bsome, impl_upds_at l (by omega) hl' k (by omega)]
 cases storeOk b
 ·rfl
 rw [if_pos rfl]
 by_cases h : l.length ≤ 40
 ·rw [if_pos (by omega), bsome, decide_eq_true h]; simp
 ·rw [if_neg (by omega), decide_eq_false h]; simp
def bit (n : Int) (b : Bool) : Int := if b then n else 0
def pack (a b c : Bool) : Int := bit 1 a + bit 2 b + bit 4 c
theorem or_pack (a b c : Bool) (j : Int) (hj : j = 0 ∨ j = 1 ∨ j = 2) : Go.bits .or .i64 (pack a b c) (shl .i64 1 j) = pack (a || decide (j = 0)) (b || decide (j = 1)) (c || decide (j = 2)) := by
 rcases hj with rfl | rfl | rfl <;> cases a <;> cases b <;> cases c <;> first | decide | kernel_rfl
theorem in_pack (a b c : Bool) (j : Int) (hj : j = 0 ∨ j = 1 ∨ j = 2) : spec_inLanes.f (pack a b c) j = some (if j = 0 then a else if j = 1 then b else c) := by
 rcases hj with rfl | rfl | rfl <;> cases a <;> cases b <;> cases c <;> first | decide | kernel_rfl
theorem add_pack (a b c : Bool) (j : Int) (hj : j = 0 ∨ j = 1 ∨ j = 2) (h : (if j = 0 then a else if j = 1 then b else c) = false) : wrap64 (pack a b c + shl .i64 1 j) = pack (a || decide (j = 0)) (b || decide (j = 1)) (c || decide (j = 2)) := by
 rcases hj with rfl | rfl | rfl <;> cases a <;> cases b <;> cases c <;> first | (exact absurd h (by decide)) | decide | kernel_rfl
def has (l : List S53) (j : Int) : Bool := l.any (fun u => decide (u.f3 = j))
def wanted (l : List S53) : Int := pack (has l 0) (has l 1) (has l 2)
theorem has_cons (u : S53) (l : List S53) (j : Int) : has (u :: l) j = (decide (u.f3 = j) || has l j) := rfl
theorem impl_wants_at (b : List S95) (l : List S53) (hl : l.length ≤ 1048576) (hu : ∀ u ∈ l, -1 ≤ u.f3 ∧ u.f3 ≤ 2) (k : Nat) (hk : 1048577 < k) : impl_lineWants.f k b l = some (wanted l) := by
 have := loop_s (n := l.length) (m := 0) (s := 1) (by omega) (fun k i => ∀ a b c : Bool, impl_lineWants.l0 k (pack a b c) l (l.length : Int) (i : Int) = some (pack (a || has (l.drop i) 0) (b || has (l.drop i) 1) (c || has (l.drop i) 2)))
  (fun k _ a b c => by simp only [impl_lineWants.l0]; rw [if_neg (by omega), List.drop_length]; simp [has])
  (fun k i h _ ih a b c => by
   obtain ⟨h1, h2⟩ := hu _ (List.getElem_mem h)
   simp only [impl_lineWants.l0]
   rw [if_pos (by omega), if_pos (by omega), if_pos (by omega), rd_upd h, wnext h (by omega), drop_cons h, has_cons, has_cons, has_cons]
   by_cases e : l[i].f3 = -1
   ·rw [if_pos e, ih]; simp [e]
   ·rw [if_neg e, if_pos (by omega), or_pack _ _ _ _ (by omega), ih]; simp only [Bool.or_assoc]) l.length 0 k (by omega) (by omega) (by omega) false false false
 unfold impl_lineWants.f wanted
 simpa [pack, bit] using this
theorem spec_wants_l1 (l : List S53) (hl : l.length ≤ 1048576) (j : Int) (hj : j = 0 ∨ j = 1 ∨ j = 2) (m : Nat) : ∀ k, l.length + m < k → ∀ a b c : Bool, ∃ q, m ≤ q ∧ spec_wants.l1 k l (pack a b c) j 0 = spec_wants.l0 q l (pack (a || (decide (j = 0) && has l j)) (b || (decide (j = 1) && has l j)) (c || (decide (j = 2) && has l j))) (wrap64 (j + 1)) := by
 intro k hk
 have := loop_s (n := l.length) (m := m) (s := 1) (by omega) (fun k i => ∀ a b c : Bool, ∃ q, m ≤ q ∧ spec_wants.l1 k l (pack a b c) j (i : Int) = spec_wants.l0 q l (pack (a || (decide (j = 0) && has (l.drop i) j)) (b || (decide (j = 1) && has (l.drop i) j)) (c || (decide (j = 2) && has (l.drop i) j))) (wrap64 (j + 1)))
  (fun k hk a b c => ⟨k, hk, by simp only [spec_wants.l1]; rw [if_neg (by omega), List.drop_length]; simp [has]⟩)
  (fun k i h hk ih a b c => by
   simp only [spec_wants.l1]
   rw [if_pos (by omega), if_pos (by omega), rd_upd h, wnext h (by omega), drop_cons h, has_cons]
   by_cases e : l[i].f3 = j
   ·rw [if_pos e, in_pack _ _ _ _ hj, bsome]
    by_cases hb : (if j = 0 then a else if j = 1 then b else c) = true
    ·rw [if_pos hb]
     obtain ⟨q, h1, h2⟩ := ih a b c
     refine ⟨q, h1, ?_⟩
     rw [h2]
     rcases hj with rfl | rfl | rfl <;> simp at hb <;> simp [hb, e]
    ·rw [if_neg hb, if_pos (by omega), add_pack _ _ _ _ hj (by simpa only [Bool.not_eq_true] using hb)]
     obtain ⟨q, h1, h2⟩ := ih (a || decide (j = 0)) (b || decide (j = 1)) (c || decide (j = 2))
     refine ⟨q, h1, ?_⟩
     rw [h2]
     rcases hj with rfl | rfl | rfl <;> simp [e]
   ·rw [if_neg e]
    obtain ⟨q, h1, h2⟩ := ih a b c
    exact ⟨q, h1, by rw [h2]; simp [e]⟩) l.length 0 k (by omega) (by omega) (by omega)
 simpa using this
theorem spec_wants_at (l : List S53) (hl : l.length ≤ 1048576) (k : Nat) (hk : 8388608 < k) : spec_wants.f k l = some (wanted l) := by
 unfold spec_wants.f
 have step : ∀ (j : Int) (m : Nat), (j = 0 ∨ j = 1 ∨ j = 2) → ∀ k, l.length + m + 1 < k → ∀ a b c : Bool, ∃ q, m ≤ q ∧ spec_wants.l0 k l (pack a b c) j = spec_wants.l0 q l (pack (a || (decide (j = 0) && has l j)) (b || (decide (j = 1) && has l j)) (c || (decide (j = 2) && has l j))) (j + 1) := by
  intro j m hj k hk a b c
  obtain ⟨k, rfl⟩ : ∃ q, k = q + 1 := ⟨k - 1, by omega⟩
  obtain ⟨q, h1, h2⟩ := spec_wants_l1 l hl j hj m k (by omega) a b c
  refine ⟨q, h1, ?_⟩
  rw [w64 (by omega) (by omega)] at h2
  simp only [spec_wants.l0]
  rw [if_pos (by omega), h2]
 obtain ⟨q1, a1, b1⟩ := step 0 6291456 (by omega) k (by omega) false false false
 obtain ⟨q2, a2, b2⟩ := step 1 4194304 (by omega) q1 (by omega) _ _ _
 obtain ⟨q3, a3, b3⟩ := step 2 2097152 (by omega) q2 (by omega) _ _ _
 rw [show (0 : Int) = pack false false false from rfl]
 rw [show pack false false false = (0 : Int) from rfl] at b1
 obtain ⟨q, rfl⟩ : ∃ q, q3 = q + 1 := ⟨q3 - 1, by omega⟩
 have e : spec_wants.l0 k l (pack false false false) 0 = _ := b1
 simp only [show (0 : Int) + 1 = 1 from rfl, show (1 : Int) + 1 = 2 from rfl, show (2 : Int) + 1 = 3 from rfl] at b1 b2 b3
 show spec_wants.l0 k l 0 0 = _
 rw [b1, b2, b3]
 simp only [spec_wants.l0]
 rw [if_neg (by decide)]
 unfold wanted
 simp
theorem lanes_in {l : List S53} (h : l.all updOk = true) : ∀ u ∈ l, -1 ≤ u.f3 ∧ u.f3 ≤ 2 := by
 intro u hu
 have h1 : updOk u = true := List.all_eq_true.1 h u hu
 unfold updOk uOk at h1
 simp only [Bool.and_eq_true, decide_eq_true_eq] at h1
 exact h1.2.2.1
def lineW (b : List S95) (l : List S53) : Int := if lineOk b l = true then wanted l else -1
theorem lineOk_all {b : List S95} {l : List S53} (h : lineOk b l = true) : l.all updOk = true := by
 unfold lineOk at h; simp only [Bool.and_eq_true] at h; exact h.2.2
theorem spec_lw_at (b : List S95) (l : List S53) (hb : b.length ≤ 1048576) (hb' : ∀ c ∈ b, CB 1048576 c) (hl : l.length ≤ 1048576) (hl' : ∀ u ∈ l, UB 2097151 u) (k : Nat) (hk : 16777216 < k) : spec_LineWants.f k b l = some (lineW b l) := by
 unfold spec_LineWants.f lineW
 rw [spec_line_at b l hb hb' hl hl' k hk, bsome]
 by_cases h : lineOk b l = true
 ·rw [if_pos h, if_pos h, spec_wants_at l hl k (by omega), bsome]
 ·rw [if_neg h, if_neg h]
theorem impl_lw_at (b : List S95) (l : List S53) (hb : b.length ≤ 1048576) (hb' : ∀ c ∈ b, CB 1048576 c) (hl : l.length ≤ 1048576) (hl' : ∀ u ∈ l, UB 2097151 u) (k : Nat) (hk : 16777216 < k) : impl_LineWants.f k b l = some (lineW b l) := by
 unfold impl_LineWants.f lineW
 rw [impl_line_at b l hb hb' hl hl' k hk, bsome]
 by_cases h : lineOk b l = true
 ·rw [if_pos h, if_pos h, impl_wants_at b l hl (lanes_in (lineOk_all h)) k (by omega), bsome]
 ·rw [if_neg h, if_neg h]
def G123 (x : S123) : Prop := (Lit.int .i64 x.f0).wf = true ∧ ((Lit.int .i64 x.f1).wf = true)
def G115 (x : S115) : Prop := (Lit.int .i64 x.f0).wf = true ∧ ((Lit.int .i64 x.f1).wf = true ∧ (x.f2.size ≤ maxLen))
def G86 (x : S86) : Prop := (x.f0.length ≤ maxLen ∧ ∀ ex_f0 ∈ x.f0, G123 ex_f0) ∧ ((x.f1.length ≤ maxLen ∧ ∀ ex_f1 ∈ x.f1, G115 ex_f1))
def G117 (x : S117) : Prop := (Lit.int .i64 x.f0).wf = true ∧ ((Lit.int .i64 x.f1).wf = true ∧ (G115 x.f2))
def G45 (x : S45) : Prop := (x.f0.length ≤ maxLen ∧ ∀ ex_f0 ∈ x.f0, G123 ex_f0) ∧ ((Lit.int .i64 x.f1).wf = true ∧ ((x.f2.length ≤ maxLen ∧ ∀ ex_f2 ∈ x.f2, G117 ex_f2) ∧ ((Lit.int .i64 x.f3).wf = true)))
def G60 (x : (List (S86)) × List (S45)) : Prop := (x.1.length ≤ maxLen ∧ ∀ ex_1 ∈ x.1, G86 ex_1) ∧ ((x.2.length ≤ maxLen ∧ ∀ ex_2 ∈ x.2, G45 ex_2))
def PureFnExactLineWants : Prop := ∀ (a0 : (List (S86)) × List (S45)), G60 a0 → ∃ k, laws_FnExactLineWants.f k a0.1 a0.2 = some true
theorem FnExactLineWants : PureFnExactLineWants := by
 rintro ⟨b, l⟩ ⟨⟨hb, hb'⟩, hl, hl'⟩
 simp only
 obtain ⟨k, hk⟩ : ∃ k : Nat, k = 33554432 := ⟨_, rfl⟩
 refine ⟨k, ?_⟩
 obtain ⟨r, hr, h1⟩ := szLine_at b l hb (fun x hx => ⟨(hb' x hx).1.1, (hb' x hx).2.1, fun v hv => ((hb' x hx).2.2 v hv).2.2⟩) hl (fun x hx => ⟨(hl' x hx).1.1, (hl' x hx).2.2.1.1, fun v hv => ((hl' x hx).2.2.1.2 v hv).2.2.2.2⟩) k (by omega)
 unfold laws_FnExactLineWants.f
 rw [hr, bsome]
 by_cases h : r < 0
 ·rw [if_pos h]
 rw [if_neg h]
 obtain ⟨h2, h3⟩ := h1 (by omega)
 obtain ⟨h4, h5⟩ := cells_CB h2
 obtain ⟨h6, h7⟩ := upds_UB h3
 have h7' : ∀ u ∈ l.map cUpd, UB 2097151 u := fun u hu => by obtain ⟨a, b, c⟩ := h7 u hu; exact ⟨by omega, by omega, fun x hx => by have := c x hx; omega⟩
 have ha : (b.map cCell).length ≤ 1048576 := by simpa using h4
 have hc : (l.map cUpd).length ≤ 1048576 := by simpa using h6
 simp only [toLine_at b l h2 h3 k (by omega), bsome]
 generalize b.map cCell = b at *
 generalize l.map cUpd = l at *
 simp only [spec_lw_at b l ha h5 hc h7' k (by omega), impl_lw_at b l ha h5 hc h7' k (by omega), eqLine_refl b l ha h5 hc h7' k (by omega), bsome, if_true]
end Go.Proofs.Ytmphggpibaolcaa.Pure
