/- The pure statement of the law 'FnExactHistRedo': for every history the law's function returns true, so the program's HistRedo is the reference's and shares no memory (no other condition). -/
import Derived.Test.YtgbbcebjgpoioaaZFnExactHistRedoQFnExactHistRedox18
namespace Go.Proofs.Ytgbbcebjgpoioaa.Pure
open Go Go.RowKit Go.Proofs.Ytgbbcebjgpoioaa.PFnExactHistRedo Go.Proofs.YtgbbcebjgpoioaaW.PrintWords Go.Proofs.YtgbbcebjgpoioaaW.PrintLast
set_option linter.unusedVariables false
set_option linter.unusedSimpArgs false
theorem w64 {n : Int} (h1 : -9223372036854775808 ≤ n) (h2 : n ≤ 9223372036854775807) : wrap64 n = n := by
 unfold wrap64; omega
theorem wnext {i n : Nat} (h : i < n) (hn : n ≤ 4611686018427387904) : wrap64 ((i : Int) + 1) = ((i + 1 : Nat) : Int) := by
 rw [w64 (by omega) (by omega)]; omega
theorem loop_up {n : Nat} (Q : Nat → Nat → Prop) (last : ∀ k, Q (k + 1) n) (step : ∀ k i, i < n → Q k (i + 1) → Q (k + 1) i) : ∀ k i, i ≤ n → n - i < k → Q k i := by
 intro k
 induction k with
 | zero => intro i _ h; omega
 | succ k ih =>
  intro i hi hk
  by_cases h : i = n
  ·subst h; exact last k
  ·exact step k i (by omega) (ih (i + 1) (by omega) (by omega))
theorem drop_at {α : Type} {l : List α} {i : Nat} (d : α) (h : i < l.length) : l.drop i = l.getD ((i : Int)).toNat d :: l.drop (i + 1) := by
 rw [List.drop_eq_getElem_cons h, List.getD_eq_getElem?_getD]
 simp [h]
theorem range_at {i n : Nat} (h : i < n) : List.range' i (n - i) = i :: List.range' (i + 1) (n - (i + 1)) := by
 rw [show n - i = (n - (i + 1)) + 1 by omega, List.range'_succ]
theorem range_end (n : Nat) : List.range' n (n - n) = [] := by simp
theorem bsome {α β : Type} (a : α) (f : α → Option β) : (some a).bind f = f a := by
 cases h : f a <;> simp [h]
theorem getD_at {α : Type} {l : List α} {i : Nat} (d : α) (h : i < l.length) : l.getD ((i : Int)).toNat d = l[i] := by
 simp [List.getD_eq_getElem?_getD, h]
theorem drop_cons {α : Type} {l : List α} {i : Nat} (h : i < l.length) : l.drop i = l[i] :: l.drop (i + 1) := List.drop_eq_getElem_cons h
theorem loop_s {n m s : Nat} (hs : 0 < s) (Q : Nat → Nat → Prop) (last : ∀ k, m ≤ k → Q (k + 1) n) (step : ∀ k i, i < n → m ≤ k → Q k (i + 1) → Q (k + s) i) : ∀ d i k, n - i = d → i ≤ n → d * s + m < k → Q k i := by
 intro d
 induction d with
 | zero =>
  intro i k hd hi hk
  obtain rfl : i = n := by omega
  obtain ⟨k, rfl⟩ : ∃ q, k = q + 1 := ⟨k - 1, by omega⟩
  exact last k (by omega)
 | succ d ih =>
  intro i k hd hi hk
  rw [Nat.add_mul, Nat.one_mul] at hk; obtain ⟨k, rfl⟩ : ∃ q, k = q + s := ⟨k - s, by omega⟩
  exact step k i (by omega) (by omega) (ih (i + 1) k (by omega) (by omega) (by omega))
theorem all_loop {α : Type} (xs : List α) (F : Nat → Int → Option Bool) (p : α → Bool) (fin : Bool) (m s : Nat) (hs : 0 < s)
  (hend : ∀ k, m ≤ k → F (k + 1) (xs.length : Int) = some fin)
  (hstep : ∀ k i (h : i < xs.length), m ≤ k → F (k + s) (i : Int) = if p xs[i] = true then F k ((i + 1 : Nat) : Int) else some false) :
  ∀ k, xs.length * s + m < k → F k 0 = some (xs.all p && fin) := by
 intro k hk
 have := loop_s (n := xs.length) (m := m) (s := s) hs (fun k i => F k (i : Int) = some ((xs.drop i).all p && fin)) (fun k hm => by show F (k + 1) (xs.length : Int) = _; rw [hend k hm, List.drop_length]; rfl)
  (fun k i h hm ih => by
   show F (k + s) (i : Int) = _
   rw [hstep k i h hm, drop_cons h, List.all_cons]; have ih' : F k ((i + 1 : Nat) : Int) = some ((xs.drop (i + 1)).all p && fin) := ih; rw [ih']
   by_cases hp : p xs[i] = true <;> simp [hp]) xs.length 0 k (by omega) (by omega) hk
 simpa using this
theorem map_loop {α β : Type} (xs : List α) (F : Nat → List β → Int → Option (List β)) (c : α → β) (z : β) (m s : Nat) (hs : 0 < s)
  (hend : ∀ k acc, m ≤ k → F (k + 1) acc (xs.length : Int) = some acc)
  (hstep : ∀ k (acc : List β) i (h : i < xs.length), m ≤ k → i < acc.length → F (k + s) acc (i : Int) = F k (acc.set i (c xs[i])) ((i + 1 : Nat) : Int)) :
  ∀ k, xs.length * s + m < k → F k (List.replicate xs.length z) 0 = some (xs.map c) := by
 intro k hk
 have := loop_s (n := xs.length) (m := m) (s := s) hs (fun k i => ∀ p : List β, p.length = i → F k (p ++ List.replicate (xs.length - i) z) (i : Int) = some (p ++ (xs.drop i).map c))
  (fun k hm p hp => by rw [hend k _ hm]; simp)
  (fun k i h hm ih p hp => by
   rw [hstep k _ i h hm (by simp; omega), show xs.length - i = (xs.length - (i + 1)) + 1 by omega, List.replicate_succ]
   have e : (p ++ z :: List.replicate (xs.length - (i + 1)) z).set i (c xs[i]) = (p ++ [c xs[i]]) ++ List.replicate (xs.length - (i + 1)) z := by
    subst hp; simp
   rw [e, ih (p ++ [c xs[i]]) (by simp [hp]), drop_cons h, List.map_cons, List.append_assoc]; rfl) xs.length 0 k (by omega) (by omega) hk [] rfl
 simpa using this
theorem sz_loop {α : Type} (xs : List α) (F : Nat → Int → Int → Option Int) (sz : α → Nat) (m s : Nat) (hs : 0 < s)
  (hend : ∀ (k : Nat) (left : Int), m ≤ k → F (k + 1) left (xs.length : Int) = some left)
  (hstep : ∀ (k : Nat) (left : Int) (i : Nat) (h : i < xs.length), m ≤ k → 0 ≤ left → left ≤ 1048576 → ∃ t, t ≤ left ∧ (0 ≤ t → t = left - sz xs[i]) ∧ F (k + s) left (i : Int) = if t < 0 then some (-1) else F k t ((i + 1 : Nat) : Int)) :
  ∀ (k : Nat) (left : Int), xs.length * s + m < k → 0 ≤ left → left ≤ 1048576 → ∃ r, F k left 0 = some r ∧ r ≤ left ∧ (0 ≤ r → r = left - (xs.map sz).sum) := by
 intro k left hk h0 h1
 have := loop_s (n := xs.length) (m := m) (s := s) hs (fun k i => ∀ left : Int, 0 ≤ left → left ≤ 1048576 → ∃ r, F k left (i : Int) = some r ∧ r ≤ left ∧ (0 ≤ r → r = left - ((xs.drop i).map sz).sum))
  (fun k hm left h0 h1 => ⟨left, by rw [hend k _ hm], by omega, by simp⟩)
  (fun k i h hm ih left h0 h1 => by
   obtain ⟨t, t1, t2, t3⟩ := hstep k left i h hm h0 h1
   by_cases ht : t < 0
   ·exact ⟨-1, by rw [t3, if_pos ht], by omega, by omega⟩
   ·obtain ⟨r, r1, r2, r3⟩ := ih t (by omega) (by omega)
    refine ⟨r, by rw [t3, if_neg ht, r1], by omega, fun hr => ?_⟩
    rw [r3 hr, t2 (by omega), drop_cons h, List.map_cons, List.sum_cons]; omega) xs.length 0 k (by omega) (by omega) hk left h0 h1
 simpa using this
theorem sum_mem {α : Type} {xs : List α} {sz : α → Nat} {x : α} (h : x ∈ xs) : sz x ≤ (xs.map sz).sum := by
 induction xs with
 | nil => cases h
 | cons y ys ih =>
  rw [List.map_cons, List.sum_cons]
  rcases List.mem_cons.1 h with rfl | h
  ·omega
  ·have := ih h; omega
theorem within_at (a b c : Int) : impl_within.f a b c = some (decide (b ≤ a ∧ a ≤ c)) := by
 unfold impl_within.f
 by_cases h : a ≥ b
 ·rw [if_pos h]; congr 1; exact decide_eq_decide.mpr ⟨fun x => ⟨h, x⟩, fun x => x.2⟩
 ·rw [if_neg h]; congr 1; exact (decide_eq_false fun x => h x.1).symm
theorem inRange_at (a b c : Int) : spec_inRange.f a b c = some (decide (b ≤ a ∧ a ≤ c)) := by
 unfold spec_inRange.f
 by_cases h : a ≥ b
 ·rw [if_pos h]; congr 1; exact decide_eq_decide.mpr ⟨fun x => ⟨h, x⟩, fun x => x.2⟩
 ·rw [if_neg h]; congr 1; exact (decide_eq_false fun x => h x.1).symm
def Good (c : Int) : Prop := (97 ≤ c ∧ c ≤ 122) ∨ (48 ≤ c ∧ c ≤ 57) ∨ c = 32
instance (c : Int) : Decidable (Good c) := by unfold Good; exact inferInstance
def goodsFrom (s : ByteArray) (i : Nat) : Bool := (List.range' i (s.size - i)).all fun j => decide (Good (bt s j))
theorem goods_at {s : ByteArray} {i : Nat} (h : i < s.size) : goodsFrom s i = (decide (Good (bt s i)) && goodsFrom s (i + 1)) := by
 unfold goodsFrom; rw [range_at h]; rfl
theorem goods_end (s : ByteArray) : goodsFrom s s.size = true := by
 unfold goodsFrom; rw [range_end]; rfl
def wordOk (s : ByteArray) : Bool := goodsFrom s 0 && decide (s.size ≤ 12)
theorem impl_word_l (s : ByteArray) (hs : s.size ≤ 4611686018427387904) : ∀ k i, i ≤ s.size → s.size - i < k → impl_word.l0 k s (i : Int) = some (goodsFrom s i && decide (s.size ≤ 12)) := by
 refine loop_up (fun k i => impl_word.l0 k s (i : Int) = some (goodsFrom s i && decide (s.size ≤ 12))) ?_ ?_
 ·intro k
  simp only [impl_word.l0]; rw [if_neg (by omega), goods_end, Bool.true_and]
  congr 1; exact decide_eq_decide.mpr (by omega)
 ·intro k i hi ih
  have e : impl_word.l0 (k + 1) s (i : Int) = if Good (bt s i) then impl_word.l0 k s (wrap64 ((i : Int) + 1)) else some false := by
   simp only [impl_word.l0]; rw [if_pos (by omega), if_pos (by omega)]
   by_cases hg : Good (bt s i)
   ·rw [if_pos hg]; unfold Good at hg
    repeat' split
    all_goals first
     | rfl
     | (exfalso; omega)
   ·rw [if_neg hg]; unfold Good at hg
    repeat' split
    all_goals first
     | rfl
     | (exfalso; omega)
  rw [e, wnext hi hs, ih, goods_at hi]
  by_cases hg : Good (bt s i) <;> simp [hg]
theorem impl_word_at (s : ByteArray) (hs : s.size ≤ 4611686018427387904) (k : Nat) (hk : s.size < k) : impl_word.f k s = some (wordOk s) := by
 have := impl_word_l s hs k 0 (by omega) (by omega)
 unfold impl_word.f wordOk
 exact this
theorem plain_at (c : Int) : spec_plainByte.f c = some (decide (Good c)) := by
 unfold spec_plainByte.f
 by_cases hg : Good c
 ·rw [decide_eq_true hg]; unfold Good at hg
  repeat' split
  all_goals first
   | rfl
   | (congr 1; exact beq_iff_eq.mpr (by omega))
   | (exfalso; omega)
 ·rw [decide_eq_false hg]; unfold Good at hg
  repeat' split
  all_goals first
   | rfl
   | (congr 1; exact beq_eq_false_iff_ne.mpr (by omega))
   | (exfalso; omega)
theorem spec_word_l (s : ByteArray) (hs : s.size ≤ 4611686018427387904) : ∀ k i, i ≤ s.size → s.size - i < k → spec_validWord.l0 k s (i : Int) = some (goodsFrom s i) := by
 refine loop_up (fun k i => spec_validWord.l0 k s (i : Int) = some (goodsFrom s i)) ?_ ?_
 ·intro k
  simp only [spec_validWord.l0]; rw [if_neg (by omega), goods_end]
 ·intro k i hi ih
  simp only [spec_validWord.l0]; rw [if_pos (by omega), if_pos (by omega), plain_at, goods_at hi]; simp only [Option.bind_some, wnext hi hs, ih]
  by_cases hg : Good (bt s i) <;> simp [hg]
theorem spec_word_at (s : ByteArray) (hs : s.size ≤ 4611686018427387904) (k : Nat) (hk : s.size < k) : spec_validWord.f k s = some (wordOk s) := by
 have := spec_word_l s hs k 0 (by omega) (by omega)
 unfold spec_validWord.f wordOk
 by_cases h : (s.size : Int) > 12
 ·rw [if_pos h, show decide (s.size ≤ 12) = false from decide_eq_false (by omega), Bool.and_false]
 ·rw [if_neg h, show decide (s.size ≤ 12) = true from decide_eq_true (by omega), Bool.and_true]; exact this
def vOk (a b : Int) (s : ByteArray) : Bool :=
 if a = 0 then (if b = 0 then s.toList == ([] : List UInt8) else false)
 else if a = 1 then (if -1000 ≤ b ∧ b ≤ 1000 then s.toList == ([] : List UInt8) else false)
 else if a = 2 then (if b = 0 then wordOk s else false) else false
theorem impl_valOk_at (a b : Int) (s : ByteArray) (hs : s.size ≤ 4611686018427387904) (k : Nat) (hk : s.size < k) : impl_ValOk.f k a b s = some (vOk a b s) := by
 unfold impl_ValOk.f vOk
 simp only [within_at, impl_word_at s hs k hk, Option.bind_some, decide_eq_true_eq]
 repeat' split
 all_goals rfl
theorem spec_val_at (a b : Int) (s : ByteArray) (hs : s.size ≤ 4611686018427387904) (k : Nat) (hk : s.size < k) : spec_validValue.f k a b s = some (vOk a b s) := by
 unfold spec_validValue.f vOk
 simp only [inRange_at, spec_word_at s hs k hk, Option.bind_some, decide_eq_true_eq]
 repeat' split
 all_goals rfl
def slotOk (x : S96) : Bool := decide (0 ≤ x.f0 ∧ x.f0 ≤ 3) && decide (0 ≤ x.f1 ∧ x.f1 ≤ 103)
theorem rd_slot {l : List S96} {i : Nat} (h : i < l.length) : l.drop i = rd_T96 l (i : Int) :: l.drop (i + 1) := drop_at z96 h
def plOk (l : List S96) : Bool := l.all slotOk && decide (l.length ≤ 20)
theorem validSlot_at (x : S96) : spec_validSlot.f x.f0 x.f1 = some (slotOk x) := by
 unfold spec_validSlot.f slotOk
 simp only [inRange_at, Option.bind_some]
 by_cases h : 0 ≤ x.f0 ∧ x.f0 ≤ 3 <;> simp [h]
theorem spec_place_l (l : List S96) (hl : l.length ≤ 4611686018427387904) : ∀ k i, i ≤ l.length → l.length - i < k → spec_validPlace.l0 k l (i : Int) = some ((l.drop i).all slotOk) := by
 refine loop_up (fun k i => spec_validPlace.l0 k l (i : Int) = some ((l.drop i).all slotOk)) ?_ ?_
 ·intro k
  simp only [spec_validPlace.l0]; rw [if_neg (by omega), List.drop_length]; rfl
 ·intro k i hi ih
  simp only [spec_validPlace.l0]; rw [if_pos (by omega), if_pos (by omega), validSlot_at, rd_slot hi]; simp only [Option.bind_some, wnext hi hl, ih, List.all_cons]
  by_cases hg : slotOk (rd_T96 l (i : Int)) = true <;> simp [hg]
theorem spec_place_at (l : List S96) (hl : l.length ≤ 4611686018427387904) (k : Nat) (hk : l.length < k) : spec_validPlace.f k l = some (plOk l) := by
 have := spec_place_l l hl k 0 (by omega) (by omega)
 unfold spec_validPlace.f plOk
 by_cases h : (l.length : Int) > 20
 ·rw [if_pos h, show decide (l.length ≤ 20) = false from decide_eq_false (by omega), Bool.and_false]
 ·rw [if_neg h, show decide (l.length ≤ 20) = true from decide_eq_true (by omega), Bool.and_true]; exact this
theorem impl_place_l (l : List S96) (hl : l.length ≤ 4611686018427387904) : ∀ k i, i ≤ l.length → l.length - i < k → impl_PlaceOk.l0 k l l (l.length : Int) (i : Int) = some ((l.drop i).all slotOk && decide (l.length ≤ 20)) := by
 refine loop_up (fun k i => impl_PlaceOk.l0 k l l (l.length : Int) (i : Int) = some ((l.drop i).all slotOk && decide (l.length ≤ 20))) ?_ ?_
 ·intro k
  simp only [impl_PlaceOk.l0]; rw [if_neg (by omega), List.drop_length]; simp only [List.all_nil, Bool.true_and]
  congr 1; exact decide_eq_decide.mpr (by omega)
 ·intro k i hi ih
  simp only [impl_PlaceOk.l0]; rw [if_pos (by omega), if_pos (by omega), if_pos (by omega), rd_slot hi]; simp only [within_at, Option.bind_some, wnext hi hl, ih, List.all_cons, slotOk, decide_eq_true_eq]
  by_cases h0 : 0 ≤ (rd_T96 l (i : Int)).f0 ∧ (rd_T96 l (i : Int)).f0 ≤ 3
  ·by_cases h1 : 0 ≤ (rd_T96 l (i : Int)).f1 ∧ (rd_T96 l (i : Int)).f1 ≤ 103
   ·rw [if_pos h0, if_pos h1]; simp [h0, h1]
   ·rw [if_pos h0, if_neg h1]; simp [h0, h1]
  ·rw [if_neg h0]; simp [h0]
theorem impl_place_at (l : List S96) (hl : l.length ≤ 4611686018427387904) (k : Nat) (hk : l.length < k) : impl_PlaceOk.f k l = some (plOk l) := by
 have := impl_place_l l hl k 0 (by omega) (by omega)
 unfold impl_PlaceOk.f plOk
 exact this
def cmp : List S96 → List S96 → Int
 | [], [] => 0
 | [], _ :: _ => -1
 | _ :: _, [] => 1
 | x :: xs, y :: ys => if x.f0 = y.f0 ∧ x.f1 = y.f1 then cmp xs ys else if x.f0 < y.f0 ∨ (x.f0 = y.f0 ∧ x.f1 < y.f1) then -1 else 1
theorem cmp_end {a b : List S96} (i : Nat) (h : i = min a.length b.length) : cmp (a.drop i) (b.drop i) = if (a.length : Int) < (b.length : Int) then -1 else if (a.length : Int) > (b.length : Int) then 1 else 0 := by
 by_cases h1 : a.length < b.length
 ·rw [if_pos (by omega), List.drop_of_length_le (by omega : a.length ≤ i), drop_at z96 (by omega : i < b.length)]; rfl
 ·rw [if_neg (by omega), List.drop_of_length_le (by omega : b.length ≤ i)]
  by_cases h2 : b.length < a.length
  ·rw [if_pos (by omega), drop_at z96 (by omega : i < a.length)]; rfl
  ·rw [if_neg (by omega), List.drop_of_length_le (by omega : a.length ≤ i)]; rfl
theorem cmp_next {a b : List S96} {i : Nat} (ha : i < a.length) (hb : i < b.length) : cmp (a.drop i) (b.drop i) =
  (if (rd_T96 a (i : Int)).f0 = (rd_T96 b (i : Int)).f0 ∧ (rd_T96 a (i : Int)).f1 = (rd_T96 b (i : Int)).f1 then cmp (a.drop (i + 1)) (b.drop (i + 1)) else
   if (rd_T96 a (i : Int)).f0 < (rd_T96 b (i : Int)).f0 ∨ ((rd_T96 a (i : Int)).f0 = (rd_T96 b (i : Int)).f0 ∧ (rd_T96 a (i : Int)).f1 < (rd_T96 b (i : Int)).f1) then -1 else 1) := by
 rw [rd_slot ha, rd_slot hb]; rfl
theorem cmp_refl (a : List S96) : cmp a a = 0 := by
 induction a with
 | nil => rfl
 | cons x xs ih => unfold cmp; rw [if_pos ⟨rfl, rfl⟩]; exact ih
theorem cmp_zero {a b : List S96} (h : cmp a b = 0) : a = b := by
 induction a generalizing b with
 | nil => cases b with
  | nil => rfl
  | cons y ys => simp [cmp] at h
 | cons x xs ih => cases b with
  | nil => simp [cmp] at h
  | cons y ys =>
   unfold cmp at h
   by_cases e : x.f0 = y.f0 ∧ x.f1 = y.f1
   ·rw [if_pos e] at h
    rw [ih h]; obtain ⟨x0, x1⟩ := x; obtain ⟨y0, y1⟩ := y; obtain ⟨e0, e1⟩ := e; simp only at e0 e1; rw [e0, e1]
   ·rw [if_neg e] at h; split at h <;> omega
theorem cmp_neg (a b : List S96) : cmp b a = - cmp a b := by
 induction a generalizing b with
 | nil => cases b <;> rfl
 | cons x xs ih => cases b with
  | nil => rfl
  | cons y ys =>
   unfold cmp
   by_cases e : x.f0 = y.f0 ∧ x.f1 = y.f1
   ·rw [if_pos e, if_pos ⟨e.1.symm, e.2.symm⟩]; exact ih ys
   ·rw [if_neg e, if_neg (fun q => e ⟨q.1.symm, q.2.symm⟩)]
    by_cases l : x.f0 < y.f0 ∨ (x.f0 = y.f0 ∧ x.f1 < y.f1)
    ·rw [if_pos l, if_neg (by omega)]; rfl
    ·rw [if_neg l, if_pos (by omega)]
theorem cmp_three (a b : List S96) : cmp a b = -1 ∨ cmp a b = 0 ∨ cmp a b = 1 := by
 induction a generalizing b with
 | nil => cases b <;> simp [cmp]
 | cons x xs ih => cases b with
  | nil => simp [cmp]
  | cons y ys =>
   unfold cmp
   split
   ·exact ih ys
   ·split <;> simp
theorem impl_cmp_l (a b : List S96) (hb : b.length ≤ 4611686018427387904) : ∀ k i, i ≤ min a.length b.length → min a.length b.length - i < k → impl_placeCmp.l0 k a b ((min a.length b.length : Nat) : Int) (i : Int) = some (cmp (a.drop i) (b.drop i)) := by
 refine loop_up (fun k i => impl_placeCmp.l0 k a b ((min a.length b.length : Nat) : Int) (i : Int) = some (cmp (a.drop i) (b.drop i))) ?_ ?_
 ·intro k
  simp only [impl_placeCmp.l0]; rw [if_neg (by omega), cmp_end _ rfl]
  repeat' split
  all_goals rfl
 ·intro k i hi ih
  have ha' : i < a.length := by omega
  have hb' : i < b.length := by omega
  simp only [impl_placeCmp.l0]; rw [if_pos (by omega), if_pos (by omega), if_pos (by omega), if_pos (by omega), wnext hi (by omega), ih, cmp_next ha' hb']; generalize rd_T96 a (i : Int) = x; generalize rd_T96 b (i : Int) = y
  by_cases e : x.f0 = y.f0 ∧ x.f1 = y.f1
  ·rw [if_pos e, if_pos (by simp [e])]
  ·rw [if_neg e, if_neg (by simpa using e)]
   by_cases l : x.f0 < y.f0 ∨ (x.f0 = y.f0 ∧ x.f1 < y.f1)
   ·rw [if_pos l]
    repeat' split
    all_goals first
     | rfl
     | (exfalso; omega)
   ·rw [if_neg l]
    repeat' split
    all_goals first
     | rfl
     | (exfalso; omega)
theorem impl_cmp_at (a b : List S96) (hb : b.length ≤ 4611686018427387904) (k : Nat) (hk : min a.length b.length < k) : impl_placeCmp.f k a b = some (cmp a b) := by
 have := impl_cmp_l a b hb k 0 (by omega) (by omega)
 unfold impl_placeCmp.f
 rw [show mn (a.length : Int) (b.length : Int) = ((min a.length b.length : Nat) : Int) by unfold mn; split <;> omega]
 exact this
theorem spec_cmp_l (a b : List S96) (hb : b.length ≤ 4611686018427387904) (ha : a.length ≤ 4611686018427387904) : ∀ d i k, min a.length b.length - i = d → i ≤ min a.length b.length → 3 * d + 2 ≤ k → spec_comparePlaces.l0 k a b (i : Int) = some (cmp (a.drop i) (b.drop i)) := by
 intro d
 induction d with
 | zero =>
  intro i k hd hi hk
  obtain ⟨k, rfl⟩ : ∃ m, k = m + 2 := ⟨k - 2, by omega⟩
  have he : i = min a.length b.length := by omega
  have hj : spec_comparePlaces.j1 (k + 1) a b (i : Int) false = some (cmp (a.drop i) (b.drop i)) := by
   simp only [spec_comparePlaces.j1]; rw [if_neg (by simp), cmp_end i he]
   repeat' split
   all_goals rfl
  simp only [spec_comparePlaces.l0]
  by_cases h1 : (i : Int) < (a.length : Int)
  ·rw [if_pos h1, decide_eq_false (by omega : ¬ (i : Int) < (b.length : Int))]; exact hj
  ·rw [if_neg h1]; exact hj
 | succ d ih =>
  intro i k hd hi hk
  obtain ⟨k, rfl⟩ : ∃ m, k = m + 3 := ⟨k - 3, by omega⟩
  have ha' : i < a.length := by omega
  have hb' : i < b.length := by omega
  have hn := ih (i + 1) k (by omega) (by omega) (by omega); simp only [spec_comparePlaces.l0]; rw [if_pos (by omega), decide_eq_true (by omega : (i : Int) < (b.length : Int))]; simp only [spec_comparePlaces.j1]; rw [if_pos trivial, if_pos (by omega), if_pos (by omega), if_pos (by omega), cmp_next ha' hb']; simp only [spec_comparePlaces.j2]; rw [wnext (n := b.length) hb' hb, hn]; simp only [show (0 : Int) ≤ (i : Int) from by omega, show (i : Int) < (a.length : Int) from by omega, show (i : Int) < (b.length : Int) from by omega, if_true]; generalize rd_T96 a (i : Int) = x; generalize rd_T96 b (i : Int) = y
  by_cases e : x.f0 = y.f0 ∧ x.f1 = y.f1
  ·obtain ⟨e0, e1⟩ := e
   simp [e0, e1]
  ·rw [if_neg e]
   have hne : (!(x.f0 == y.f0) || !(x.f1 == y.f1)) = true := by
    rw [Bool.or_eq_true, Bool.not_eq_true', Bool.not_eq_true', beq_eq_false_iff_ne, beq_eq_false_iff_ne]
    by_cases h0 : x.f0 = y.f0
    ·exact Or.inr fun h1 => e ⟨h0, h1⟩
    ·exact Or.inl h0
   rw [hne]
   by_cases l : x.f0 < y.f0 ∨ (x.f0 = y.f0 ∧ x.f1 < y.f1)
   ·rw [if_pos l]
    by_cases l0 : x.f0 < y.f0
    ·simp [l0]
    ·obtain ⟨e0, e1⟩ : x.f0 = y.f0 ∧ x.f1 < y.f1 := by omega
     simp [e0, e1]
   ·rw [if_neg l]
    have l0 : ¬ x.f0 < y.f0 := by omega
    by_cases e0 : x.f0 = y.f0
    ·have l1 : ¬ x.f1 < y.f1 := by omega
     simp [e0, l1]
    ·simp [l0, e0]
theorem spec_cmp_at (a b : List S96) (ha : a.length ≤ 4611686018427387904) (hb : b.length ≤ 4611686018427387904) (k : Nat) (hk : 3 * min a.length b.length + 2 ≤ k) : spec_comparePlaces.f k a b = some (cmp a b) := by
 have := spec_cmp_l a b hb ha _ 0 k rfl (by omega) (by omega)
 unfold spec_comparePlaces.f
 exact this
def vOkS (x : S98) : Bool := vOk x.f0 x.f1 x.f2
def vsOk (l : List S98) : Bool := l.all vOkS
theorem rd_val {l : List S98} {i : Nat} (h : i < l.length) : rd_T98 l (i : Int) = l[i] := getD_at z98 h
theorem spec_vals_at (l : List S98) (hl : l.length ≤ 4611686018427387904) (m : Nat) (hm : ∀ x ∈ l, x.f2.size < m) (hm' : m ≤ 4611686018427387904) (k : Nat) (hk : l.length + m < k) : spec_validValues.f k l = some (vsOk l) := by
 unfold spec_validValues.f
 rw [all_loop l (fun k i => spec_validValues.l0 k l i) vOkS true m 1 (by omega)
  (fun k _ => by simp only [spec_validValues.l0]; rw [if_neg (by omega)])
  (fun k i h hk => by
   have hx := hm _ (List.getElem_mem h); simp only [spec_validValues.l0]
   rw [if_pos (by omega), if_pos (by omega), rd_val h, spec_val_at _ _ _ (by omega) k (by omega), bsome, wnext h hl]; rfl) k (by omega)]
 unfold vsOk; simp
theorem impl_vals_at (l : List S98) (hl : l.length ≤ 4611686018427387904) (m : Nat) (hm : ∀ x ∈ l, x.f2.size < m) (hm' : m ≤ 4611686018427387904) (k : Nat) (hk : l.length + m < k) : impl_valsOk.f k l = some (vsOk l) := by
 unfold impl_valsOk.f
 rw [all_loop l (fun k i => impl_valsOk.l0 k l (l.length : Int) i) vOkS true m 1 (by omega)
  (fun k _ => by simp only [impl_valsOk.l0]; rw [if_neg (by omega)])
  (fun k i h hk => by
   have hx := hm _ (List.getElem_mem h); simp only [impl_valsOk.l0]
   rw [if_pos (by omega), if_pos (by omega), if_pos (by omega), rd_val h, impl_valOk_at _ _ _ (by omega) k (by omega), bsome, wnext h hl]; rfl) k (by omega)]
 unfold vsOk; simp
def cellOk (x : S72) : Bool := plOk x.f0 && (decide (x.f1.length ≤ 3) && vsOk x.f1)
def cellsOk : Option (List S96) → List S72 → Bool
 | _, [] => true
 | p, c :: cs => (cellOk c && (match p with | none => true | some q => decide (cmp q c.f0 < 0))) && cellsOk (some c.f0) cs
theorem cellsOk_cons (p : Option (List S96)) (c : S72) (cs : List S72) : cellsOk p (c :: cs) = ((cellOk c && (match p with | none => true | some q => decide (cmp q c.f0 < 0))) && cellsOk (some c.f0) cs) := by cases p <;> rfl
def storeOk (l : List S72) : Bool := cellsOk none l && decide (l.length ≤ 200)
theorem rd_cell {l : List S72} {i : Nat} (h : i < l.length) : rd_T72 l (i : Int) = l[i] := getD_at z72 h
def CB (M : Nat) (c : S72) : Prop := c.f0.length ≤ M ∧ c.f1.length ≤ M ∧ ∀ v ∈ c.f1, v.f2.size ≤ M
theorem wprev {i : Nat} (h : 0 < i) (hi : i ≤ 4611686018427387904) : wrap64 ((i : Int) - 1) = ((i - 1 : Nat) : Int) := by
 rw [w64 (by omega) (by omega)]; omega
theorem spec_store_at (l : List S72) (hl : l.length ≤ 4611686018427387904) (M : Nat) (hM : M ≤ 1073741824) (hc : ∀ c ∈ l, CB M c) (k : Nat) (hk : l.length + (3 * M + 10) < k) : spec_validStore.f k l = some (storeOk l) := by
 have key := loop_s (n := l.length) (m := 3 * M + 10) (s := 1) (by omega) (fun k i => ∀ p, (i = 0 → p = none) → (∀ (h : 0 < i) (h' : i - 1 < l.length), p = some l[i - 1].f0) → spec_validStore.l0 k l (i : Int) = some (cellsOk p (l.drop i)))
  (fun k _ p _ _ => by simp only [spec_validStore.l0]; rw [if_neg (by omega), List.drop_length]; rfl)
  (fun k i h hk ih p h0 h1 => by
   obtain ⟨c0, c1, c2⟩ := hc _ (List.getElem_mem h); have ih' := ih (some l[i].f0) (by omega) (fun _ _ => by simp); simp only [spec_validStore.l0]; rw [if_pos (by omega), if_pos (by omega), rd_cell h, drop_cons h, wnext h hl, ih']; rw [spec_place_at _ (by omega) k (by omega), bsome, spec_vals_at l[i].f1 (by omega) (M + 1) (fun v hv => by have := c2 v hv; omega) (by omega) k (by omega), bsome]; rw [cellsOk_cons]; generalize hR : cellsOk (some l[i].f0) (l.drop (i + 1)) = R
   unfold cellOk
   cases hp : plOk l[i].f0
   ·simp
   by_cases hlen : l[i].f1.length ≤ 3
   ·rw [if_pos rfl, if_neg (by omega)]
    cases hv : vsOk l[i].f1
    ·simp
    rw [if_pos rfl]
    by_cases hi : i = 0
    ·subst hi
     rw [if_neg (by omega), h0 rfl]; simp [hlen]
    ·rw [if_pos (by omega), wprev (by omega) (by omega), if_pos (by omega), if_pos (by omega), rd_cell (by omega), h1 (by omega) (by omega)]
     have hlt : i - 1 < l.length := by omega
     obtain ⟨d0, d1, d2⟩ := hc _ (List.getElem_mem hlt); rw [spec_cmp_at _ _ (by omega) (by omega) k (by omega), bsome]
     by_cases hcm : cmp l[i - 1].f0 l[i].f0 < 0
     ·rw [if_neg (by omega)]; simp [hlen, hcm]
     ·rw [if_pos (by omega)]; simp [hcm]
   ·rw [if_pos rfl, if_pos (by omega)]; simp [hlen]) l.length 0 k (by omega) (by omega) (by omega) none (fun _ => rfl) (fun h _ => by omega)
 unfold spec_validStore.f storeOk
 by_cases h : (l.length : Int) > 200
 ·rw [if_pos h, show decide (l.length ≤ 200) = false from decide_eq_false (by omega), Bool.and_false]
 ·rw [if_neg h, show decide (l.length ≤ 200) = true from decide_eq_true (by omega), Bool.and_true]; exact key
theorem impl_store_at (l : List S72) (hl : l.length ≤ 4611686018427387904) (M : Nat) (hM : M ≤ 1073741824) (hc : ∀ c ∈ l, CB M c) (k : Nat) (hk : l.length + (3 * M + 10) < k) : impl_StoreOk.f k l = some (storeOk l) := by
 have key := loop_s (n := l.length) (m := 3 * M + 10) (s := 1) (by omega) (fun k i => ∀ p, (i = 0 → p = none) → (∀ (h : 0 < i) (h' : i - 1 < l.length), p = some l[i - 1].f0) → impl_StoreOk.l0 k l l (l.length : Int) (i : Int) = some (cellsOk p (l.drop i) && decide (l.length ≤ 200)))
  (fun k _ p _ _ => by
   simp only [impl_StoreOk.l0]; rw [if_neg (by omega), List.drop_length]
   unfold cellsOk; rw [Bool.true_and]; congr 1; exact decide_eq_decide.mpr (by omega))
  (fun k i h hk ih p h0 h1 => by
   obtain ⟨c0, c1, c2⟩ := hc _ (List.getElem_mem h); have ih' := ih (some l[i].f0) (by omega) (fun _ _ => by simp); simp only [impl_StoreOk.l0]; rw [if_pos (by omega), if_pos (by omega), if_pos (by omega), rd_cell h, drop_cons h, wnext h hl, ih']; rw [impl_place_at _ (by omega) k (by omega), bsome, impl_vals_at l[i].f1 (by omega) (M + 1) (fun v hv => by have := c2 v hv; omega) (by omega) k (by omega), bsome]; rw [cellsOk_cons]; generalize hR : cellsOk (some l[i].f0) (l.drop (i + 1)) = R
   unfold cellOk
   cases hp : plOk l[i].f0
   ·simp
   by_cases hlen : l[i].f1.length ≤ 3
   ·rw [if_pos rfl, if_neg (by omega)]
    cases hv : vsOk l[i].f1
    ·simp
    rw [if_pos rfl]
    by_cases hi : i = 0
    ·subst hi
     rw [if_neg (by omega), h0 rfl]; simp [hlen]
    ·rw [if_pos (by omega), wprev (by omega) (by omega), if_pos (by omega), if_pos (by omega), rd_cell (by omega), h1 (by omega) (by omega)]
     have hlt : i - 1 < l.length := by omega
     obtain ⟨d0, d1, d2⟩ := hc _ (List.getElem_mem hlt); rw [impl_cmp_at _ _ (by omega) k (by omega), bsome]
     by_cases hcm : cmp l[i - 1].f0 l[i].f0 < 0
     ·rw [if_neg (by omega)]; simp [hlen, hcm]
     ·rw [if_pos (by omega)]; simp [hcm]
   ·rw [if_pos rfl, if_pos (by omega)]; simp [hlen]) l.length 0 k (by omega) (by omega) (by omega) none (fun _ => rfl) (fun h _ => by omega)
 unfold impl_StoreOk.f storeOk
 exact key
def cSlot (x : S127) : S96 := ⟨x.f0, x.f1⟩
theorem rd_lslot {l : List S127} {i : Nat} (h : i < l.length) : l.drop i = rd_T127 l (i : Int) :: l.drop (i + 1) := drop_at z127 h
theorem set_mid {α : Type} (p : List α) (a b : α) (r : List α) (n : Nat) (h : n = p.length) : (p ++ a :: r).set n b = p ++ b :: r := by subst h; simp
theorem toSlotS_l (l : List S127) (hl : l.length ≤ 4611686018427387904) (z : S96) : ∀ k i, i ≤ l.length → l.length - i < k → ∀ p, p.length = i → laws_toSlotS.l0 k l (p ++ List.replicate (l.length - i) z) (i : Int) = some (p ++ (l.drop i).map cSlot) := by
 refine loop_up (fun k i => ∀ p, p.length = i → laws_toSlotS.l0 k l (p ++ List.replicate (l.length - i) z) (i : Int) = some (p ++ (l.drop i).map cSlot)) ?_ ?_
 ·intro k p hp
  simp only [laws_toSlotS.l0]; rw [if_neg (by omega)]; simp
 ·intro k i hi ih p hp
  simp only [laws_toSlotS.l0, laws_toSlot.f]; rw [if_pos (by omega), if_pos (by omega)]; simp only [Option.bind_some]; rw [if_pos (by simp; omega), show l.length - i = (l.length - (i + 1)) + 1 by omega, List.replicate_succ, set_mid _ _ _ _ _ (by omega), wnext hi hl]; have := ih (p ++ [cSlot (rd_T127 l (i : Int))]) (by simp [hp]); rw [List.append_assoc] at this; rw [rd_lslot hi, List.map_cons, ← List.singleton_append, ← List.append_assoc p, List.append_assoc p]; rw [List.append_assoc] at this
  exact this
theorem toSlotS_at (l : List S127) (hl : l.length ≤ 1048576) (k : Nat) (hk : l.length < k) : laws_toSlotS.f k l = some (l.map cSlot) := by
 unfold laws_toSlotS.f
 rw [if_pos (by omega), if_pos (by omega)]; have := toSlotS_l l (by omega) z96 k 0 (by omega) (by omega) [] rfl
 simpa using this
theorem szSlotS_at (l : List S127) (n : Int) (hn : 0 ≤ n ∧ n ≤ 1048576) (hl : l.length ≤ maxLen) : ∃ r, laws_szSlotS.f l n = some r ∧ (0 ≤ r → r = n - l.length) ∧ r ≤ n := by
 have hm : l.length ≤ 9223372036854775807 := hl
 unfold laws_szSlotS.f
 rw [w64 (by omega) (by omega)]
 by_cases h : n - (l.length : Int) < 0
 ·rw [if_pos h]; exact ⟨_, rfl, by omega, by omega⟩
 ·rw [if_neg h]; exact ⟨_, rfl, by omega, by omega⟩
theorem eqSlot_refl (a b : Int) : laws_eqSlot.f a b a b = some true := by unfold laws_eqSlot.f; simp
theorem eqSlotS_l (l : List S96) (hl : l.length ≤ 4611686018427387904) : ∀ k i, i ≤ l.length → l.length - i < k → laws_eqSlotS.l0 k l l (i : Int) = some true := by
 refine loop_up (fun k i => laws_eqSlotS.l0 k l l (i : Int) = some true) ?_ ?_
 ·intro k
  simp only [laws_eqSlotS.l0]; rw [if_neg (by omega)]
 ·intro k i hi ih
  simp only [laws_eqSlotS.l0]; rw [if_pos (by omega), if_pos (by omega), if_pos (by omega), eqSlot_refl]; simp only [Option.bind_some, wnext hi hl, ih, if_true]
theorem eqSlotS_refl (l : List S96) (hl : l.length ≤ 4611686018427387904) (k : Nat) (hk : l.length < k) : laws_eqSlotS.f k l l = some true := by
 unfold laws_eqSlotS.f
 rw [if_pos rfl]; exact eqSlotS_l l hl k 0 (by omega) (by omega)
def cValue (x : S125) : S98 := ⟨x.f0, x.f1, x.f2⟩
theorem rd_lval {l : List S125} {i : Nat} (h : i < l.length) : rd_T125 l (i : Int) = l[i] := getD_at z125 h
theorem toValueS_at (l : List S125) (hl : l.length ≤ 1048576) (k : Nat) (hk : l.length < k) : laws_toValueS.f k l = some (l.map cValue) := by
 unfold laws_toValueS.f
 rw [if_pos (by omega), if_pos (by omega)]
 exact map_loop l (fun k acc i => laws_toValueS.l0 k l acc i) cValue z98 0 1 (by omega)
  (fun k acc _ => by simp only [laws_toValueS.l0]; rw [if_neg (by omega)])
  (fun k acc i h _ ha => by
   simp only [laws_toValueS.l0]; rw [if_pos (by omega), if_pos (by omega), rd_lval h]; simp only [laws_toValue.f, bsome]
   rw [if_pos (by omega), wnext h (by omega)]; rfl) k (by omega)
theorem szval_at (a b : Int) (s : ByteArray) (n : Int) (hn : 0 ≤ n ∧ n ≤ 1048576) (hs : s.size ≤ maxLen) : ∃ r, laws_szValue.f a b s n = some r ∧ (0 ≤ r → r = n - s.size) ∧ r ≤ n := by
 have hm : s.size ≤ 9223372036854775807 := hs
 unfold laws_szValue.f
 rw [w64 (by omega) (by omega)]
 by_cases h : n - (s.size : Int) < 0
 ·rw [if_pos h]; exact ⟨_, rfl, by omega, by omega⟩
 ·rw [if_neg h]; exact ⟨_, rfl, by omega, by omega⟩
def szVals (l : List S125) : Nat := l.length + (l.map (fun x => x.f2.size)).sum
theorem szValueS_at (l : List S125) (hl : l.length ≤ maxLen) (hg : ∀ x ∈ l, x.f2.size ≤ maxLen) (n : Int) (hn : 0 ≤ n ∧ n ≤ 1048576) (k : Nat) (hk : 1048578 < k) : ∃ r, laws_szValueS.f k l n = some r ∧ r ≤ n ∧ (0 ≤ r → r = n - szVals l) := by
 have hm : l.length ≤ 9223372036854775807 := hl
 unfold laws_szValueS.f
 rw [w64 (by omega) (by omega)]
 by_cases h : n - (l.length : Int) < 0
 ·rw [if_pos h]; exact ⟨_, rfl, by omega, by omega⟩
 ·rw [if_neg h]
  obtain ⟨r, h1, h2, h3⟩ := sz_loop l (fun k left i => laws_szValueS.l0 k l left i) (fun x => x.f2.size) 0 1 (by omega)
   (fun k left _ => by simp only [laws_szValueS.l0]; rw [if_neg (by omega)])
   (fun k left i h _ h0 h1 => by
    obtain ⟨t, t1, t2, t3⟩ := szval_at l[i].f0 l[i].f1 l[i].f2 left ⟨h0, h1⟩ (hg _ (List.getElem_mem h)); simp only [laws_szValueS.l0]; rw [if_pos (by omega), if_pos (by omega), rd_lval h, t1, bsome]
    exact ⟨t, t3, t2, by rw [wnext h (by omega)]⟩) k (n - (l.length : Int)) (by omega) (by omega) (by omega)
  refine ⟨r, h1, by omega, fun hr => ?_⟩
  have := h3 hr
  unfold szVals
  omega
def cCell (x : S89) : S72 := ⟨x.f0.map cSlot, x.f1.map cValue⟩
theorem rd_lcell {l : List S89} {i : Nat} (h : i < l.length) : rd_T89 l (i : Int) = l[i] := getD_at z89 h
def szCell (x : S89) : Nat := x.f0.length + szVals x.f1
def szCells (l : List S89) : Nat := l.length + (l.map szCell).sum
theorem toCellS_at (l : List S89) (hl : szCells l ≤ 1048576) (k : Nat) (hk : 2097160 < k) : laws_toCellS.f k l = some (l.map cCell) := by
 have hlen : l.length ≤ 1048576 := by unfold szCells at hl; omega
 unfold laws_toCellS.f
 rw [if_pos (by omega), if_pos (by omega)]
 exact map_loop l (fun k acc i => laws_toCellS.l0 k l acc i) cCell z72 1048577 1 (by omega)
  (fun k acc _ => by simp only [laws_toCellS.l0]; rw [if_neg (by omega)])
  (fun k acc i h hk ha => by
   have hs : szCell l[i] ≤ 1048576 := by
    have := sum_mem (sz := szCell) (List.getElem_mem h)
    unfold szCells at hl; omega
   have hs' : l[i].f0.length + (l[i].f1.length + (l[i].f1.map (fun x => x.f2.size)).sum) ≤ 1048576 := hs; simp only [laws_toCellS.l0]; rw [if_pos (by omega), if_pos (by omega), rd_lcell h]
   unfold laws_toCell.f
   rw [toSlotS_at _ (by omega) k (by omega), bsome, toValueS_at _ (by omega) k (by omega), bsome, bsome]
   rw [if_pos (by omega), wnext h (by omega)]; rfl) k (by omega)
theorem szCellS_at (l : List S89) (hl : l.length ≤ maxLen) (hg : ∀ x ∈ l, x.f0.length ≤ maxLen ∧ x.f1.length ≤ maxLen ∧ ∀ v ∈ x.f1, v.f2.size ≤ maxLen) (n : Int) (hn : 0 ≤ n ∧ n ≤ 1048576) (k : Nat) (hk : 2097160 < k) : ∃ r, laws_szCellS.f k l n = some r ∧ r ≤ n ∧ (0 ≤ r → r = n - szCells l) := by
 have hm : l.length ≤ 9223372036854775807 := hl
 unfold laws_szCellS.f
 rw [w64 (by omega) (by omega)]
 by_cases h : n - (l.length : Int) < 0
 ·rw [if_pos h]; exact ⟨_, rfl, by omega, by omega⟩
 ·rw [if_neg h]
  obtain ⟨r, h1, h2, h3⟩ := sz_loop l (fun k left i => laws_szCellS.l0 k l left i) szCell 1048579 1 (by omega)
   (fun k left _ => by simp only [laws_szCellS.l0]; rw [if_neg (by omega)])
   (fun k left i h hk h0 h1 => by
    obtain ⟨g0, g1, g2⟩ := hg _ (List.getElem_mem h); obtain ⟨t, t1, t2, t3⟩ := szSlotS_at l[i].f0 left ⟨h0, h1⟩ g0; simp only [laws_szCellS.l0]; rw [if_pos (by omega), if_pos (by omega), rd_lcell h]
    unfold laws_szCell.f
    rw [t1, bsome]
    by_cases ht : t < 0
    ·exact ⟨-1, by omega, by omega, by rw [if_pos ht, bsome, if_pos (by omega), if_pos (by omega)]⟩
    ·obtain ⟨u, u1, u2, u3⟩ := szValueS_at l[i].f1 g1 g2 t (by omega) k (by omega)
     rw [if_neg ht, u1, bsome]
     by_cases hu : u < 0
     ·exact ⟨-1, by omega, by omega, by rw [if_pos hu, bsome, if_pos (by omega), if_pos (by omega)]⟩
     ·exact ⟨u, by omega, fun _ => by rw [u3 (by omega), t2 (by omega)]; unfold szCell; omega, by rw [if_neg hu, bsome, if_neg hu, if_neg hu, wnext h (by omega)]⟩) k (n - (l.length : Int)) (by omega) (by omega) (by omega)
  refine ⟨r, h1, by omega, fun hr => ?_⟩
  have := h3 hr
  unfold szCells
  omega
theorem cells_CB {l : List S89} {n : Nat} (h : szCells l ≤ n) : l.length ≤ n ∧ ∀ c ∈ l.map cCell, CB n c := by
 unfold szCells at h
 refine ⟨by omega, fun c hc => ?_⟩
 obtain ⟨y, hy, rfl⟩ := List.mem_map.1 hc; have h1 : szCell y ≤ (l.map szCell).sum := sum_mem (sz := szCell) hy; have h2 : szCell y = y.f0.length + (y.f1.length + (y.f1.map (fun x => x.f2.size)).sum) := rfl
 refine ⟨by show (y.f0.map cSlot).length ≤ n; rw [List.length_map]; omega, by show (y.f1.map cValue).length ≤ n; rw [List.length_map]; omega, fun v hv => ?_⟩
 obtain ⟨u, hu, rfl⟩ := List.mem_map.1 (show v ∈ y.f1.map cValue from hv); have h3 : u.f2.size ≤ (y.f1.map (fun x => x.f2.size)).sum := sum_mem (sz := fun x : S125 => x.f2.size) hu
 show u.f2.size ≤ n
 omega
theorem eqValue_refl (a b : Int) (s : ByteArray) : laws_eqValue.f a b s a b s = some true := by unfold laws_eqValue.f; simp
theorem eqValueS_refl (l : List S98) (hl : l.length ≤ 4611686018427387904) (k : Nat) (hk : l.length < k) : laws_eqValueS.f k l l = some true := by
 unfold laws_eqValueS.f
 rw [if_pos rfl]; have := all_loop l (fun k i => laws_eqValueS.l0 k l l i) (fun _ => true) true 0 1 (by omega)
  (fun k _ => by simp only [laws_eqValueS.l0]; rw [if_neg (by omega)])
  (fun k i h _ => by
   simp only [laws_eqValueS.l0]; rw [if_pos (by omega), if_pos (by omega), if_pos (by omega), rd_val h]
   simp only [eqValue_refl, bsome, if_true, wnext h hl]) k (by omega)
 rw [this]; congr 1; simp [List.all_eq_true]
theorem eqCellS_refl (l : List S72) (hl : l.length ≤ 1073741824) (M : Nat) (hM : M ≤ 1073741824) (hc : ∀ c ∈ l, CB M c) (k : Nat) (hk : l.length + (M + 1) < k) : laws_eqCellS.f k l l = some true := by
 unfold laws_eqCellS.f
 rw [if_pos rfl]; have := all_loop l (fun k i => laws_eqCellS.l0 k l l i) (fun _ => true) true (M + 1) 1 (by omega)
  (fun k _ => by simp only [laws_eqCellS.l0]; rw [if_neg (by omega)])
  (fun k i h hk => by
   obtain ⟨c0, c1, c2⟩ := hc _ (List.getElem_mem h); simp only [laws_eqCellS.l0]; rw [if_pos (by omega), if_pos (by omega), if_pos (by omega), rd_cell h]
   unfold laws_eqCell.f
   simp only [eqSlotS_refl l[i].f0 (by omega) k (by omega), eqValueS_refl l[i].f1 (by omega) k (by omega), bsome, if_true, wnext h (show l.length ≤ 4611686018427387904 by omega)]) k (by omega)
 rw [this]; congr 1; simp [List.all_eq_true]
theorem rd_lstore {l : List (List S89)} {i : Nat} (h : i < l.length) : rd_L13 l (i : Int) = l[i] := getD_at [] h
theorem rd_store {l : List (List S72)} {i : Nat} (h : i < l.length) : rd_L7 l (i : Int) = l[i] := getD_at [] h
def szStores (l : List (List S89)) : Nat := l.length + (l.map szCells).sum
def GC (l : List S89) : Prop := l.length ≤ maxLen ∧ ∀ x ∈ l, x.f0.length ≤ maxLen ∧ x.f1.length ≤ maxLen ∧ ∀ v ∈ x.f1, v.f2.size ≤ maxLen
theorem toCellSS_at (l : List (List S89)) (hl : szStores l ≤ 1048576) (k : Nat) (hk : 4194320 < k) : laws_toCellSS.f k l = some (l.map (fun s => s.map cCell)) := by
 have hlen : l.length ≤ 1048576 := by unfold szStores at hl; omega
 unfold laws_toCellSS.f
 rw [if_pos (by omega), if_pos (by omega)]
 exact map_loop l (fun k acc i => laws_toCellSS.l0 k l acc i) (fun s => s.map cCell) [] 2097161 1 (by omega)
  (fun k acc _ => by simp only [laws_toCellSS.l0]; rw [if_neg (by omega)])
  (fun k acc i h hk ha => by
   have hs : szCells l[i] ≤ 1048576 := by
    have := sum_mem (sz := szCells) (List.getElem_mem h)
    unfold szStores at hl; omega
   simp only [laws_toCellSS.l0]; rw [if_pos (by omega), if_pos (by omega), rd_lstore h, toCellS_at _ hs k (by omega), bsome]
   rw [if_pos (by omega), wnext h (by omega)]; rfl) k (by omega)
theorem szCellSS_at (l : List (List S89)) (hl : l.length ≤ maxLen) (hg : ∀ x ∈ l, GC x) (n : Int) (hn : 0 ≤ n ∧ n ≤ 1048576) (k : Nat) (hk : 4194320 < k) : ∃ r, laws_szCellSS.f k l n = some r ∧ r ≤ n ∧ (0 ≤ r → r = n - szStores l) := by
 have hm : l.length ≤ 9223372036854775807 := hl
 unfold laws_szCellSS.f
 rw [w64 (by omega) (by omega)]
 by_cases h : n - (l.length : Int) < 0
 ·rw [if_pos h]; exact ⟨_, rfl, by omega, by omega⟩
 ·rw [if_neg h]
  obtain ⟨r, h1, h2, h3⟩ := sz_loop l (fun k left i => laws_szCellSS.l0 k l left i) szCells 2097161 1 (by omega)
   (fun k left _ => by simp only [laws_szCellSS.l0]; rw [if_neg (by omega)])
   (fun k left i h hk h0 h1 => by
    obtain ⟨g0, g1⟩ := hg _ (List.getElem_mem h); obtain ⟨t, t1, t2, t3⟩ := szCellS_at l[i] g0 g1 left ⟨h0, h1⟩ k (by omega); simp only [laws_szCellSS.l0]; rw [if_pos (by omega), if_pos (by omega), rd_lstore h, t1, bsome]
    exact ⟨t, t2, t3, by rw [wnext h (by omega)]⟩) k (n - (l.length : Int)) (by omega) (by omega) (by omega)
  refine ⟨r, h1, by omega, fun hr => ?_⟩
  have := h3 hr
  unfold szStores
  omega
def SB (l : List S72) : Prop := l.length ≤ 1048576 ∧ ∀ c ∈ l, CB 1048576 c
theorem stores_SB {l : List (List S89)} (h : szStores l ≤ 1048576) : l.length ≤ 1048576 ∧ ∀ s ∈ l.map (fun s => s.map cCell), SB s := by
 unfold szStores at h
 refine ⟨by omega, fun c hc => ?_⟩
 obtain ⟨y, hy, rfl⟩ := List.mem_map.1 hc; have h1 : szCells y ≤ (l.map szCells).sum := sum_mem (sz := szCells) hy; obtain ⟨h3, h4⟩ := cells_CB (l := y) (n := 1048576) (by omega)
 exact ⟨by simpa using h3, h4⟩
theorem eqCellSS_refl (l : List (List S72)) (hl : l.length ≤ 1048576) (hc : ∀ c ∈ l, SB c) (k : Nat) (hk : 4194304 < k) : laws_eqCellSS.f k l l = some true := by
 unfold laws_eqCellSS.f
 rw [if_pos rfl]; have := all_loop l (fun k i => laws_eqCellSS.l0 k l l i) (fun _ => true) true 2097154 1 (by omega)
  (fun k _ => by simp only [laws_eqCellSS.l0]; rw [if_neg (by omega)])
  (fun k i h hk => by
   obtain ⟨c0, c1⟩ := hc _ (List.getElem_mem h); simp only [laws_eqCellSS.l0]; rw [if_pos (by omega), if_pos (by omega), if_pos (by omega), rd_store h]
   simp only [eqCellS_refl l[i] (by omega) 1048576 (by omega) c1 k (by omega), bsome, if_true, wnext h (show l.length ≤ 4611686018427387904 by omega)]) k (by omega)
 rw [this]; congr 1; simp [List.all_eq_true]
theorem szHist_at (n : List S89) (b a : List (List S89)) (hn : GC n) (hb : b.length ≤ maxLen) (hb' : ∀ x ∈ b, GC x) (ha : a.length ≤ maxLen) (ha' : ∀ x ∈ a, GC x) (k : Nat) (hk : 4194320 < k) : ∃ r, laws_szHist.f k n b a 1048576 = some r ∧ (0 ≤ r → szCells n ≤ 1048576 ∧ szStores b ≤ 1048576 ∧ szStores a ≤ 1048576) := by
 obtain ⟨r, hr, h1, h2⟩ := szCellS_at n hn.1 hn.2 1048576 (by omega) k (by omega)
 unfold laws_szHist.f
 rw [hr, bsome]
 by_cases h : r < 0
 ·rw [if_pos h]; exact ⟨_, rfl, by omega⟩
 rw [if_neg h]; have h2' := h2 (by omega); obtain ⟨q, hq, h3, h4⟩ := szCellSS_at b hb hb' r (by omega) k hk; rw [hq, bsome]
 by_cases h' : q < 0
 ·rw [if_pos h']; exact ⟨_, rfl, by omega⟩
 rw [if_neg h']; have h4' := h4 (by omega); obtain ⟨u, hu, h5, h6⟩ := szCellSS_at a ha ha' q (by omega) k hk; rw [hu, bsome]
 by_cases h'' : u < 0
 ·rw [if_pos h'']; exact ⟨_, rfl, by omega⟩
 have h6' := h6 (by omega); rw [if_neg h'']; exact ⟨_, rfl, fun _ => by omega⟩
theorem toHist_at (n : List S89) (b a : List (List S89)) (hn : szCells n ≤ 1048576) (hb : szStores b ≤ 1048576) (ha : szStores a ≤ 1048576) (k : Nat) (hk : 4194320 < k) : laws_toHist.f k n b a = some (n.map cCell, b.map (fun s => s.map cCell), a.map (fun s => s.map cCell)) := by
 unfold laws_toHist.f
 rw [toCellS_at n hn k (by omega), bsome, toCellSS_at b hb k hk, bsome, toCellSS_at a ha k hk, bsome]
theorem eqHist_refl (n : List S72) (b a : List (List S72)) (hn : SB n) (hb : b.length ≤ 1048576) (hb' : ∀ c ∈ b, SB c) (ha : a.length ≤ 1048576) (ha' : ∀ c ∈ a, SB c) (k : Nat) (hk : 4194304 < k) : laws_eqHist.f k n b a n b a = some true := by
 obtain ⟨n0, n1⟩ := hn
 unfold laws_eqHist.f
 simp only [eqCellS_refl n (by omega) 1048576 (by omega) n1 k (by omega), eqCellSS_refl b (by omega) hb' k (by omega), eqCellSS_refl a (by omega) ha' k (by omega), bsome, if_true]
def histOk (n : List S72) (b a : List (List S72)) : Bool := storeOk n && (b.all storeOk && (a.all storeOk && decide (b.length + a.length ≤ 6)))
theorem spec_stores_at (l : List (List S72)) (hl : l.length ≤ 1048576) (hc : ∀ c ∈ l, SB c) (k : Nat) (hk : 8388608 < k) : spec_validStores.f k l = some (decide (l.length ≤ 6) && l.all storeOk) := by
 unfold spec_validStores.f
 by_cases h : (l.length : Int) > 6
 ·rw [if_pos h, show decide (l.length ≤ 6) = false from decide_eq_false (by omega), Bool.false_and]
 rw [if_neg h, show decide (l.length ≤ 6) = true from decide_eq_true (by omega), Bool.true_and]; have := all_loop l (fun k i => spec_validStores.l0 k l i) storeOk true 4194320 1 (by omega)
  (fun k _ => by simp only [spec_validStores.l0]; rw [if_neg (by omega)])
  (fun k i h hk => by
   obtain ⟨c0, c1⟩ := hc _ (List.getElem_mem h); simp only [spec_validStores.l0]
   rw [if_pos (by omega), if_pos (by omega), rd_store h, spec_store_at _ (by omega) 1048576 (by omega) c1 k (by omega), bsome, wnext h (by omega)]) k (by omega)
 rw [Bool.and_true] at this; exact this
theorem impl_stores_at (l : List (List S72)) (hl : l.length ≤ 1048576) (hc : ∀ c ∈ l, SB c) (k : Nat) (hk : 8388608 < k) : impl_storesOk.f k l = some (l.all storeOk) := by
 unfold impl_storesOk.f
 have := all_loop l (fun k i => impl_storesOk.l0 k l (l.length : Int) i) storeOk true 4194320 1 (by omega)
  (fun k _ => by simp only [impl_storesOk.l0]; rw [if_neg (by omega)])
  (fun k i h hk => by
   obtain ⟨c0, c1⟩ := hc _ (List.getElem_mem h); simp only [impl_storesOk.l0]
   rw [if_pos (by omega), if_pos (by omega), if_pos (by omega), rd_store h, impl_store_at _ (by omega) 1048576 (by omega) c1 k (by omega), bsome, wnext h (by omega)]) k (by omega)
 rw [Bool.and_true] at this; exact this
theorem spec_hist_at (n : List S72) (b a : List (List S72)) (hn : SB n) (hb : b.length ≤ 1048576) (hb' : ∀ c ∈ b, SB c) (ha : a.length ≤ 1048576) (ha' : ∀ c ∈ a, SB c) (k : Nat) (hk : 8388608 < k) : spec_validHist.f k n b a = some (histOk n b a) := by
 unfold spec_validHist.f histOk
 rw [spec_store_at n (by have := hn.1; omega) 1048576 (by omega) hn.2 k (by have := hn.1; omega), bsome, spec_stores_at b hb hb' k hk, bsome, spec_stores_at a ha ha' k hk, bsome, w64 (by omega) (by omega)]
 cases storeOk n <;> cases b.all storeOk <;> cases a.all storeOk <;> by_cases h1 : b.length ≤ 6 <;> by_cases h2 : a.length ≤ 6 <;> by_cases h3 : b.length + a.length ≤ 6 <;> first | omega | (simp [h1, h2, h3]; done) | (simp [h1, h2, h3]; omega)
theorem impl_hist_at (n : List S72) (b a : List (List S72)) (hn : SB n) (hb : b.length ≤ 1048576) (hb' : ∀ c ∈ b, SB c) (ha : a.length ≤ 1048576) (ha' : ∀ c ∈ a, SB c) (k : Nat) (hk : 8388608 < k) : impl_HistOk.f k n b a = some (histOk n b a) := by
 unfold impl_HistOk.f histOk
 rw [impl_store_at n (by have := hn.1; omega) 1048576 (by omega) hn.2 k (by have := hn.1; omega), bsome, impl_stores_at b hb hb' k hk, bsome, impl_stores_at a ha ha' k hk, bsome, w64 (by omega) (by omega)]
 cases storeOk n <;> cases b.all storeOk <;> cases a.all storeOk <;> by_cases h3 : b.length + a.length ≤ 6 <;> first | (simp [h3]; done) | (simp [h3]; omega)
def mkSlots : List S96 → Nat → List S96
 | [], _ => []
 | _ :: xs, a => ⟨(a : Int), ((a + 1 : Nat) : Int)⟩ :: mkSlots xs (a + 2)
theorem mkSlots_length (l : List S96) : ∀ a, (mkSlots l a).length = l.length := by
 induction l with
 | nil => intro a; rfl
 | cons x l ih => intro a; simp only [mkSlots, List.length_cons, ih]
theorem rdm_slot (p : List S96) (x : S96) (r : List S96) : rd_T96 (p ++ x :: r) (p.length : Int) = x := by
 unfold rd_T96
 simp [List.getD_eq_getElem?_getD]
theorem setm {α : Type} (p : List α) (a b : α) (r : List α) : (p ++ a :: r).set ((p.length : Int)).toNat b = p ++ b :: r := set_mid p a b r _ (Int.toNat_natCast _)
theorem snoc_cons {α : Type} (p : List α) (a : α) (r : List α) : p ++ a :: r = (p ++ [a]) ++ r := by simp
theorem markSlotS_l : ∀ (l p : List S96) (a k : Nat), p.length + l.length ≤ 1099511627776 → a + 2 * l.length ≤ 1099511627776 → l.length < k → laws_markSlotS.l0 k (p ++ l) (a : Int) (p.length : Int) = some (((a + 2 * l.length : Nat) : Int), p ++ mkSlots l a) := by
 intro l
 induction l with
 | nil =>
  intro p a k hp ha hk
  obtain ⟨k, rfl⟩ : ∃ q, k = q + 1 := ⟨k - 1, by omega⟩; simp only [laws_markSlotS.l0]; rw [if_neg (by simp)]; simp [mkSlots]
 | cons x l ih =>
  intro p a k hp ha hk
  simp only [List.length_cons] at hp ha hk; obtain ⟨k, rfl⟩ : ∃ q, k = q + 1 := ⟨k - 1, by omega⟩; simp only [laws_markSlotS.l0]
  have a1 : wrap64 ((a : Int) + 1) = ((a + 1 : Nat) : Int) := by rw [w64 (by omega) (by omega)]; omega
  have a2 : wrap64 (((a + 1 : Nat) : Int) + 1) = ((a + 2 : Nat) : Int) := by rw [w64 (by omega) (by omega)]; omega
  rw [if_pos (by rw [List.length_append, List.length_cons]; omega), if_pos (by omega), bsome]; simp only [setm, rdm_slot]; rw [a1, a2, wnext (i := p.length) (n := p.length + l.length + 1) (by omega) (by omega)]; have := ih (p ++ [⟨(a : Int), ((a + 1 : Nat) : Int)⟩]) (a + 2) k (by rw [List.length_append]; simp only [List.length_cons, List.length_nil]; omega) (by omega) (by omega); rw [List.length_append, ← snoc_cons, ← snoc_cons] at this; rw [show ((p.length + 1 : Nat) : Int) = ((p.length + [(⟨(a : Int), ((a + 1 : Nat) : Int)⟩ : S96)].length : Nat) : Int) from rfl, this]; simp only [mkSlots, List.length_cons]; rw [show a + 2 + 2 * l.length = a + 2 * (l.length + 1) by omega]
theorem markSlotS_at (l : List S96) (a k : Nat) (h : l.length ≤ 1099511627776) (ha : a + 2 * l.length ≤ 1099511627776) (hk : l.length < k) : laws_markSlotS.f k l (a : Int) = some (((a + 2 * l.length : Nat) : Int), mkSlots l a) := by
 have := markSlotS_l l [] a k (by simpa using h) ha hk
 simpa [laws_markSlotS.f] using this
theorem heldSlotS_l : ∀ (l p : List S96) (a k : Nat), p.length + l.length ≤ 1099511627776 → a + 2 * l.length ≤ 1099511627776 → l.length < k → laws_heldSlotS.l0 k (p ++ mkSlots l a) (a : Int) (p.length : Int) = some ((a + 2 * l.length : Nat) : Int) := by
 intro l
 induction l with
 | nil =>
  intro p a k hp ha hk
  obtain ⟨k, rfl⟩ : ∃ q, k = q + 1 := ⟨k - 1, by omega⟩; rw [show mkSlots [] a = [] from rfl]; simp only [laws_heldSlotS.l0]; rw [if_neg (by simp)]; simp
 | cons x l ih =>
  intro p a k hp ha hk
  simp only [List.length_cons] at hp ha hk; obtain ⟨k, rfl⟩ : ∃ q, k = q + 1 := ⟨k - 1, by omega⟩; rw [show mkSlots (x :: l) a = ⟨(a : Int), ((a + 1 : Nat) : Int)⟩ :: mkSlots l (a + 2) from rfl]; simp only [laws_heldSlotS.l0]
  have a1 : wrap64 ((a : Int) + 1) = ((a + 1 : Nat) : Int) := by rw [w64 (by omega) (by omega)]; omega
  have a2 : wrap64 (((a + 1 : Nat) : Int) + 1) = ((a + 2 : Nat) : Int) := by rw [w64 (by omega) (by omega)]; omega
  rw [if_pos (by rw [List.length_append, List.length_cons]; omega), if_pos (by omega)]; simp only [rdm_slot]; rw [a1, a2]; simp only [if_true]; rw [wnext (i := p.length) (n := p.length + l.length + 1) (by omega) (by omega)]; have := ih (p ++ [⟨(a : Int), ((a + 1 : Nat) : Int)⟩]) (a + 2) k (by rw [List.length_append]; simp only [List.length_cons, List.length_nil]; omega) (by omega) (by omega); rw [List.length_append, ← snoc_cons] at this; rw [show ((p.length + 1 : Nat) : Int) = ((p.length + [(⟨(a : Int), ((a + 1 : Nat) : Int)⟩ : S96)].length : Nat) : Int) from rfl, this]; simp only [List.length_cons]; rw [show a + 2 + 2 * l.length = a + 2 * (l.length + 1) by omega]
theorem heldSlotS_at (l : List S96) (a k : Nat) (h : l.length ≤ 1099511627776) (ha : a + 2 * l.length ≤ 1099511627776) (hk : l.length < k) : laws_heldSlotS.f k (mkSlots l a) (a : Int) = some ((a + 2 * l.length : Nat) : Int) := by
 have := heldSlotS_l l [] a k (by simpa using h) ha hk
 simpa [laws_heldSlotS.f] using this
theorem markText_l : ∀ (n k : Nat) (acc : ByteArray), n < k → acc.size + n ≤ 4611686018427387904 → ∃ s, laws_markText.l0 k (n : Int) acc = some s := by
 intro n
 induction n using Nat.strongRecOn with
 | ind n ih =>
  intro k acc hk ha
  obtain ⟨k, rfl⟩ : ∃ q, k = q + 1 := ⟨k - 1, by omega⟩; simp only [laws_markText.l0]
  by_cases h : n = 0
  ·rw [if_neg (by omega), if_pos (by omega)]; exact ⟨_, rfl⟩
  ·have e1 : Int.tdiv (n : Int) 10 = ((n / 10 : Nat) : Int) := rfl
   rw [if_pos (by omega), bsome, e1, w64 (n := ((n / 10 : Nat) : Int)) (by omega) (by omega)]
   have hs : ∀ v : Int, (strOfNums [v]).size = 1 := fun v => rfl
   rw [hs, if_pos (by omega)]
   refine ih (n / 10) (by omega) k _ (by omega) ?_
   rw [ByteArray.size_append, hs]; omega
theorem markText_at (n : Nat) (h : n ≤ 1099511627776) (k : Nat) (hk : n < k) : ∃ s, laws_markText.f k (n : Int) = some s := by
 unfold laws_markText.f
 by_cases h0 : (n : Int) ≤ 0
 ·rw [if_pos h0]; exact ⟨_, rfl⟩
 ·rw [if_neg h0]
  exact markText_l n k _ hk (by show 0 + n ≤ 4611686018427387904; omega)
def mText (n : Nat) : ByteArray := (laws_markText.f (n + 1) (n : Int)).getD ByteArray.empty
theorem markText_eq (n : Nat) (h : n ≤ 1099511627776) (k : Nat) (hk : n < k) : laws_markText.f k (n : Int) = some (mText n) := by
 have h1 : ∀ d, laws_markText.f (n + 1 + d) (n : Int) = some (mText n) := by
  intro d
  induction d with
  | zero =>
   obtain ⟨s, e⟩ := markText_at n h (n + 1) (by omega)
   unfold mText; rw [Nat.add_zero, e]; rfl
  | succ d ih => exact laws_markText.mono _ _ _ ih
 have := h1 (k - (n + 1))
 rwa [show n + 1 + (k - (n + 1)) = k by omega] at this
def mkVals : List S98 → Nat → List S98
 | [], _ => []
 | _ :: xs, a => ⟨(a : Int), ((a + 1 : Nat) : Int), mText (a + 2)⟩ :: mkVals xs (a + 3)
theorem rdm_val (p : List S98) (x : S98) (r : List S98) : rd_T98 (p ++ x :: r) (p.length : Int) = x := by
 unfold rd_T98
 simp [List.getD_eq_getElem?_getD]
theorem markValueS_l : ∀ (l p : List S98) (a k : Nat), p.length + l.length ≤ 1099511627776 → a + 3 * l.length ≤ 1099511627776 → a + 4 * l.length < k → laws_markValueS.l0 k (p ++ l) (a : Int) (p.length : Int) = some (((a + 3 * l.length : Nat) : Int), p ++ mkVals l a) := by
 intro l
 induction l with
 | nil =>
  intro p a k hp ha hk
  obtain ⟨k, rfl⟩ : ∃ q, k = q + 1 := ⟨k - 1, by omega⟩; simp only [laws_markValueS.l0]; rw [if_neg (by simp)]; simp [mkVals]
 | cons x l ih =>
  intro p a k hp ha hk
  simp only [List.length_cons] at hp ha hk; obtain ⟨k, rfl⟩ : ∃ q, k = q + 1 := ⟨k - 1, by omega⟩; simp only [laws_markValueS.l0]
  have a1 : wrap64 ((a : Int) + 1) = ((a + 1 : Nat) : Int) := by rw [w64 (by omega) (by omega)]; omega
  have a2 : wrap64 (((a + 1 : Nat) : Int) + 1) = ((a + 2 : Nat) : Int) := by rw [w64 (by omega) (by omega)]; omega
  have a3 : wrap64 (((a + 2 : Nat) : Int) + 1) = ((a + 3 : Nat) : Int) := by rw [w64 (by omega) (by omega)]; omega
  rw [if_pos (by rw [List.length_append, List.length_cons]; omega), if_pos (by omega), bsome, bsome]; simp only [setm, rdm_val]; rw [a1, a2, a3, markText_eq (a + 2) (by omega) k (by omega), bsome]; (try simp only [setm, rdm_val]); rw [wnext (i := p.length) (n := p.length + l.length + 1) (by omega) (by omega)]; have := ih (p ++ [⟨(a : Int), ((a + 1 : Nat) : Int), mText (a + 2)⟩]) (a + 3) k (by rw [List.length_append]; simp only [List.length_cons, List.length_nil]; omega) (by omega) (by omega); rw [List.length_append, ← snoc_cons, ← snoc_cons] at this; rw [show ((p.length + 1 : Nat) : Int) = ((p.length + [(⟨(a : Int), ((a + 1 : Nat) : Int), mText (a + 2)⟩ : S98)].length : Nat) : Int) from rfl, this]; simp only [mkVals, List.length_cons]; rw [show a + 3 + 3 * l.length = a + 3 * (l.length + 1) by omega]
theorem markValueS_at (l : List S98) (a k : Nat) (h : l.length ≤ 1099511627776) (ha : a + 3 * l.length ≤ 1099511627776) (hk : a + 4 * l.length < k) : laws_markValueS.f k l (a : Int) = some (((a + 3 * l.length : Nat) : Int), mkVals l a) := by
 have := markValueS_l l [] a k (by simpa using h) ha hk
 simpa [laws_markValueS.f] using this
theorem heldValueS_l : ∀ (l p : List S98) (a k : Nat), p.length + l.length ≤ 1099511627776 → a + 3 * l.length ≤ 1099511627776 → a + 4 * l.length < k → laws_heldValueS.l0 k (p ++ mkVals l a) (a : Int) (p.length : Int) = some ((a + 3 * l.length : Nat) : Int) := by
 intro l
 induction l with
 | nil =>
  intro p a k hp ha hk
  obtain ⟨k, rfl⟩ : ∃ q, k = q + 1 := ⟨k - 1, by omega⟩; rw [show mkVals [] a = [] from rfl]; simp only [laws_heldValueS.l0]; rw [if_neg (by simp)]; simp
 | cons x l ih =>
  intro p a k hp ha hk
  simp only [List.length_cons] at hp ha hk; obtain ⟨k, rfl⟩ : ∃ q, k = q + 1 := ⟨k - 1, by omega⟩; rw [show mkVals (x :: l) a = ⟨(a : Int), ((a + 1 : Nat) : Int), mText (a + 2)⟩ :: mkVals l (a + 3) from rfl]; simp only [laws_heldValueS.l0]
  have a1 : wrap64 ((a : Int) + 1) = ((a + 1 : Nat) : Int) := by rw [w64 (by omega) (by omega)]; omega
  have a2 : wrap64 (((a + 1 : Nat) : Int) + 1) = ((a + 2 : Nat) : Int) := by rw [w64 (by omega) (by omega)]; omega
  have a3 : wrap64 (((a + 2 : Nat) : Int) + 1) = ((a + 3 : Nat) : Int) := by rw [w64 (by omega) (by omega)]; omega
  rw [if_pos (by rw [List.length_append, List.length_cons]; omega), if_pos (by omega)]; simp only [rdm_val]; rw [a1, a2, a3]; simp only [if_true]; rw [markText_eq (a + 2) (by omega) k (by omega), bsome, if_pos rfl, wnext (i := p.length) (n := p.length + l.length + 1) (by omega) (by omega)]; have := ih (p ++ [⟨(a : Int), ((a + 1 : Nat) : Int), mText (a + 2)⟩]) (a + 3) k (by rw [List.length_append]; simp only [List.length_cons, List.length_nil]; omega) (by omega) (by omega); rw [List.length_append, ← snoc_cons] at this; rw [show ((p.length + 1 : Nat) : Int) = ((p.length + [(⟨(a : Int), ((a + 1 : Nat) : Int), mText (a + 2)⟩ : S98)].length : Nat) : Int) from rfl, this]; simp only [List.length_cons]; rw [show a + 3 + 3 * l.length = a + 3 * (l.length + 1) by omega]
theorem heldValueS_at (l : List S98) (a k : Nat) (h : l.length ≤ 1099511627776) (ha : a + 3 * l.length ≤ 1099511627776) (hk : a + 4 * l.length < k) : laws_heldValueS.f k (mkVals l a) (a : Int) = some ((a + 3 * l.length : Nat) : Int) := by
 have := heldValueS_l l [] a k (by simpa using h) ha hk
 simpa [laws_heldValueS.f] using this
def szm (c : S72) : Nat := 2 * c.f0.length + 3 * c.f1.length
def szms (l : List S72) : Nat := (l.map szm).sum
theorem szms_cons (c : S72) (l : List S72) : szms (c :: l) = 2 * c.f0.length + 3 * c.f1.length + szms l := by unfold szms; rw [List.map_cons, List.sum_cons]; rfl
def mkCells : List S72 → Nat → List S72
 | [], _ => []
 | c :: xs, a => ⟨mkSlots c.f0 a, mkVals c.f1 (a + 2 * c.f0.length)⟩ :: mkCells xs (a + (2 * c.f0.length + 3 * c.f1.length))
theorem rdm_cell (p : List S72) (x : S72) (r : List S72) : rd_T72 (p ++ x :: r) (p.length : Int) = x := by
 unfold rd_T72
 simp [List.getD_eq_getElem?_getD]
theorem markCellS_l : ∀ (l p : List S72) (a k : Nat), p.length + l.length ≤ 1099511627776 → a + szms l ≤ 1099511627776 → a + 2 * szms l + l.length < k → laws_markCellS.l0 k (p ++ l) (a : Int) (p.length : Int) = some (((a + szms l : Nat) : Int), p ++ mkCells l a) := by
 intro l
 induction l with
 | nil =>
  intro p a k hp ha hk
  obtain ⟨k, rfl⟩ : ∃ q, k = q + 1 := ⟨k - 1, by omega⟩; simp only [laws_markCellS.l0]; rw [if_neg (by simp)]; simp [mkCells, szms]
 | cons x l ih =>
  intro p a k hp ha hk
  rw [szms_cons] at ha hk; simp only [List.length_cons] at hp hk; obtain ⟨k, rfl⟩ : ∃ q, k = q + 1 := ⟨k - 1, by omega⟩; simp only [laws_markCellS.l0]; rw [if_pos (by rw [List.length_append, List.length_cons]; omega), if_pos (by omega), rdm_cell, markSlotS_at x.f0 a k (by omega) (by omega) (by omega), bsome, markValueS_at x.f1 (a + 2 * x.f0.length) k (by omega) (by omega) (by omega), bsome, setm, wnext (i := p.length) (n := p.length + l.length + 1) (by omega) (by omega)]; have := ih (p ++ [⟨mkSlots x.f0 a, mkVals x.f1 (a + 2 * x.f0.length)⟩]) (a + (2 * x.f0.length + 3 * x.f1.length)) k (by rw [List.length_append]; simp only [List.length_cons, List.length_nil]; omega) (by omega) (by omega); rw [List.length_append, ← snoc_cons, ← snoc_cons] at this; simp only [mkCells]; rw [szms_cons, ← Nat.add_assoc a, ← this, show a + 2 * x.f0.length + 3 * x.f1.length = a + (2 * x.f0.length + 3 * x.f1.length) by omega]; rfl
theorem markCellS_at (l : List S72) (a k : Nat) (h : l.length ≤ 1099511627776) (ha : a + szms l ≤ 1099511627776) (hk : a + 2 * szms l + l.length < k) : laws_markCellS.f k l (a : Int) = some (((a + szms l : Nat) : Int), mkCells l a) := by
 have := markCellS_l l [] a k (by simpa using h) ha hk
 simpa [laws_markCellS.f] using this
theorem szms_cCell (l : List S89) : szms (l.map cCell) ≤ 3 * szCells l := by
 induction l with
 | nil => simp [szms]
 | cons x l ih =>
  rw [List.map_cons, szms_cons]
  have e : szCells (x :: l) = 1 + (x.f0.length + (x.f1.length + (x.f1.map (fun x => x.f2.size)).sum)) + szCells l := by
   unfold szCells; rw [List.map_cons, List.sum_cons, List.length_cons]; unfold szCell szVals; omega
  have e0 : (cCell x).f0.length = x.f0.length := by unfold cCell; simp
  have e1 : (cCell x).f1.length = x.f1.length := by unfold cCell; simp
  omega
theorem heldCellS_l : ∀ (l p : List S72) (a k : Nat), p.length + l.length ≤ 1099511627776 → a + szms l ≤ 1099511627776 → a + 2 * szms l + l.length < k → laws_heldCellS.l0 k (p ++ mkCells l a) (a : Int) (p.length : Int) = some ((a + szms l : Nat) : Int) := by
 intro l
 induction l with
 | nil =>
  intro p a k hp ha hk
  obtain ⟨k, rfl⟩ : ∃ q, k = q + 1 := ⟨k - 1, by omega⟩; rw [show mkCells [] a = [] from rfl]; simp only [laws_heldCellS.l0]; rw [if_neg (by simp)]; simp [szms]
 | cons x l ih =>
  intro p a k hp ha hk
  rw [szms_cons] at ha hk; simp only [List.length_cons] at hp hk; obtain ⟨k, rfl⟩ : ∃ q, k = q + 1 := ⟨k - 1, by omega⟩; rw [show mkCells (x :: l) a = ⟨mkSlots x.f0 a, mkVals x.f1 (a + 2 * x.f0.length)⟩ :: mkCells l (a + (2 * x.f0.length + 3 * x.f1.length)) from rfl]; simp only [laws_heldCellS.l0]; rw [if_pos (by rw [List.length_append, List.length_cons]; omega), if_pos (by omega)]; simp only [rdm_cell]; rw [heldSlotS_at x.f0 a k (by omega) (by omega) (by omega), bsome, if_neg (by omega), heldValueS_at x.f1 (a + 2 * x.f0.length) k (by omega) (by omega) (by omega), bsome, if_neg (by omega), wnext (i := p.length) (n := p.length + l.length + 1) (by omega) (by omega)]; have := ih (p ++ [⟨mkSlots x.f0 a, mkVals x.f1 (a + 2 * x.f0.length)⟩]) (a + (2 * x.f0.length + 3 * x.f1.length)) k (by rw [List.length_append]; simp only [List.length_cons, List.length_nil]; omega) (by omega) (by omega); rw [List.length_append, ← snoc_cons] at this; rw [szms_cons, show a + (2 * x.f0.length + 3 * x.f1.length + szms l) = a + (2 * x.f0.length + 3 * x.f1.length) + szms l by omega, ← this, show a + 2 * x.f0.length + 3 * x.f1.length = a + (2 * x.f0.length + 3 * x.f1.length) by omega]; rfl
theorem heldCellS_at (l : List S72) (a k : Nat) (h : l.length ≤ 1099511627776) (ha : a + szms l ≤ 1099511627776) (hk : a + 2 * szms l + l.length < k) : laws_heldCellS.f k (mkCells l a) (a : Int) = some ((a + szms l : Nat) : Int) := by
 have := heldCellS_l l [] a k (by simpa using h) ha hk
 simpa [laws_heldCellS.f] using this
theorem nil_app {α : Type} (l : List α) : ([] : List α) ++ l = l := rfl
theorem spec_copyCell_at (a : List S96) (b : List S98) (ha : a.length ≤ 1048576) (hb : b.length ≤ 1048576) : spec_copyCell.f a b = some (a, b) := by
 unfold spec_copyCell.f
 rw [bsome, if_pos (by simp only [List.length_nil]; omega), bsome, if_pos (by simp only [List.length_nil]; omega)]; rfl
theorem app_loop {α β : Type} (xs : List α) (F : Nat → List β → Int → Option (List β)) (c : α → List β) (m s : Nat) (hs : 0 < s)
  (hend : ∀ k acc, m ≤ k → F (k + 1) acc (xs.length : Int) = some acc)
  (hstep : ∀ k (acc : List β) i (h : i < xs.length), m ≤ k → acc.length ≤ ((xs.take i).map (fun x => (c x).length)).sum → F (k + s) acc (i : Int) = F k (acc ++ c xs[i]) ((i + 1 : Nat) : Int)) :
  ∀ k, xs.length * s + m < k → F k [] 0 = some (xs.flatMap c) := by
 intro k hk
 have := loop_s (n := xs.length) (m := m) (s := s) hs (fun k i => ∀ p : List β, p.length ≤ ((xs.take i).map (fun x => (c x).length)).sum → F k p (i : Int) = some (p ++ (xs.drop i).flatMap c))
  (fun k hm p hp => by rw [hend k _ hm]; simp)
  (fun k i h hm ih p hp => by
   rw [hstep k _ i h hm hp, ih (p ++ c xs[i]) (by rw [List.length_append, List.take_succ_eq_append_getElem h, List.map_append, List.sum_append]; simp only [List.map_cons, List.map_nil, List.sum_cons, List.sum_nil]; omega), drop_cons h, List.flatMap_cons, List.append_assoc]) xs.length 0 k (by omega) (by omega) hk [] (by simp)
 simpa using this
theorem sum_le {α : Type} (xs : List α) (f : α → Nat) (h : ∀ x, f x ≤ 1) : (xs.map f).sum ≤ xs.length := by
 induction xs with
 | nil => simp
 | cons x xs ih => rw [List.map_cons, List.sum_cons, List.length_cons]; have := h x; omega
theorem take_sum {α : Type} (xs : List α) (f : α → Nat) (h : ∀ x, f x ≤ 1) (i : Nat) : ((xs.take i).map f).sum ≤ xs.length := Nat.le_trans (sum_le _ f h) (by rw [List.length_take]; omega)
theorem flat_one {α : Type} (xs : List α) : xs.flatMap (fun x => [x]) = xs := by induction xs with
 | nil => rfl
 | cons x xs ih => rw [List.flatMap_cons, ih]; rfl
theorem flat_filter {α : Type} (xs : List α) (p : α → Bool) : xs.flatMap (fun x => if p x = true then [x] else []) = xs.filter p := by induction xs with
 | nil => rfl
 | cons x xs ih => rw [List.flatMap_cons, ih, List.filter_cons]; split <;> simp
theorem spec_copyStore_at (l : List S72) (hl : l.length ≤ 1048576) (hc : ∀ c ∈ l, CB 1048576 c) (k : Nat) (hk : l.length < k) : spec_copyStore.f k l = some l := by
 unfold spec_copyStore.f
 have := app_loop l (fun k acc i => spec_copyStore.l0 k l acc i) (fun x => [x]) 0 1 (by omega)
  (fun k acc _ => by simp only [spec_copyStore.l0]; rw [if_neg (by omega)])
  (fun k acc i h _ ha => by
   have := take_sum l (fun _ => 1) (by simp) i; obtain ⟨c0, c1, c2⟩ := hc _ (List.getElem_mem h); simp only [List.length_singleton] at ha; simp only [spec_copyStore.l0]
   rw [if_pos (by omega), if_pos (by omega), rd_cell h, spec_copyCell_at _ _ (by omega) (by omega), bsome, if_pos (by omega), wnext h (by omega)]) k (by omega)
 rw [flat_one] at this; exact this
structure HX (n : List S72) (b a : List (List S72)) : Prop where
 now : SB n
 back : b.length ≤ 1048576 ∧ ∀ c ∈ b, SB c
 ahead : a.length ≤ 1048576 ∧ ∀ c ∈ a, SB c
theorem spec_copyStores_at (l : List (List S72)) (hl : l.length ≤ 1048576) (hc : ∀ c ∈ l, SB c) (k : Nat) (hk : 4194304 < k) : spec_copyStores.f k l = some l := by
 unfold spec_copyStores.f
 have := app_loop l (fun k acc i => spec_copyStores.l0 k l acc i) (fun x => [x]) 1048577 1 (by omega)
  (fun k acc _ => by simp only [spec_copyStores.l0]; rw [if_neg (by omega)])
  (fun k acc i h hk ha => by
   have := take_sum l (fun _ => 1) (by simp) i; obtain ⟨c0, c1⟩ := hc _ (List.getElem_mem h); simp only [List.length_singleton] at ha; simp only [spec_copyStores.l0]
   rw [if_pos (by omega), if_pos (by omega), rd_store h, spec_copyStore_at _ c0 c1 k (by omega), bsome, if_pos (by omega), wnext h (by omega)]) k (by omega)
 rw [flat_one] at this; exact this
def undoR (n : List S72) (b a : List (List S72)) : List S72 × List (List S72) × List (List S72) × Bool :=
 if histOk n b a = true ∧ b ≠ [] then (b.getD (b.length - 1) [], b.take (b.length - 1), a ++ [n], true) else ([], [], [], false)
def redoR (n : List S72) (b a : List (List S72)) : List S72 × List (List S72) × List (List S72) × Bool :=
 if histOk n b a = true ∧ a ≠ [] then (a.getD (a.length - 1) [], b ++ [n], a.take (a.length - 1), true) else ([], [], [], false)
theorem last_SB {l : List (List S72)} (h : ∀ c ∈ l, SB c) (hn : l ≠ []) : SB (l.getD (l.length - 1) []) := by
 have hp := List.length_pos_iff.2 hn; rw [List.getD_eq_getElem?_getD, List.getElem?_eq_getElem (show l.length - 1 < l.length by omega)]
 exact h _ (List.getElem_mem _)
theorem snoc_SB {l : List (List S72)} {n : List S72} (h : ∀ c ∈ l, SB c) (hn : SB n) : ∀ c ∈ l ++ [n], SB c := fun c hc => by
 rcases List.mem_append.1 hc with hc | hc
 ·exact h c hc
 ·rw [List.mem_singleton.1 hc]; exact hn
theorem HX_nil : HX [] [] [] := ⟨⟨Nat.zero_le _, fun c hc => by simp at hc⟩, ⟨Nat.zero_le _, fun c hc => by simp at hc⟩, ⟨Nat.zero_le _, fun c hc => by simp at hc⟩⟩
theorem histOk_len {n : List S72} {b a : List (List S72)} (h : histOk n b a = true) : b.length + a.length ≤ 6 := by
 unfold histOk at h
 simp only [Bool.and_eq_true, decide_eq_true_eq] at h
 exact h.2.2.2
theorem undoR_HX {n : List S72} {b a : List (List S72)} (h : HX n b a) : HX (undoR n b a).1 (undoR n b a).2.1 (undoR n b a).2.2.1 := by
 unfold undoR
 by_cases hc : histOk n b a = true ∧ b ≠ []
 ·rw [if_pos hc]
  have := histOk_len hc.1
  exact ⟨last_SB h.back.2 hc.2, ⟨by rw [List.length_take]; omega, fun c hc => h.back.2 c (List.mem_of_mem_take hc)⟩, ⟨by rw [List.length_append, List.length_singleton]; omega, snoc_SB h.ahead.2 h.now⟩⟩
 ·rw [if_neg hc]; exact HX_nil
theorem redoR_HX {n : List S72} {b a : List (List S72)} (h : HX n b a) : HX (redoR n b a).1 (redoR n b a).2.1 (redoR n b a).2.2.1 := by
 unfold redoR
 by_cases hc : histOk n b a = true ∧ a ≠ []
 ·rw [if_pos hc]
  have := histOk_len hc.1
  exact ⟨last_SB h.ahead.2 hc.2, ⟨by rw [List.length_append, List.length_singleton]; omega, snoc_SB h.back.2 h.now⟩, ⟨by rw [List.length_take]; omega, fun c hc => h.ahead.2 c (List.mem_of_mem_take hc)⟩⟩
 ·rw [if_neg hc]; exact HX_nil
theorem len_zero {l : List (List S72)} : ((l.length : Int) == 0) = false ↔ l ≠ [] := by
 rw [beq_eq_false_iff_ne]
 exact ⟨fun h e => h (by rw [e]; rfl), fun h e => h (List.length_eq_zero_iff.1 (by omega))⟩
theorem impl_storeCopy_at (l : List S72) (hl : SB l) (k : Nat) (hk : 1048600 < k) : impl_storeCopy.f k l = some l := by
 unfold impl_storeCopy.f
 have := app_loop l (fun k acc i => impl_storeCopy.l0 k acc l (l.length : Int) i) (fun x => [x]) 0 1 (by omega)
  (fun k acc _ => by simp only [impl_storeCopy.l0]; rw [if_neg (by omega)])
  (fun k acc i h _ ha => by
   have := take_sum l (fun _ => 1) (by simp) i; obtain ⟨c0, c1, c2⟩ := hl.2 _ (List.getElem_mem h); have := hl.1; simp only [List.length_singleton] at ha; simp only [impl_storeCopy.l0]; rw [if_pos (by omega), if_pos (by omega), if_pos (by omega), rd_cell h]
   unfold impl_cellCopy.f impl_placeCopy.f impl_valsCopy.f
   rw [if_pos (by rw [List.length_nil]; omega), bsome, if_pos (by rw [List.length_nil]; omega), bsome, bsome, if_pos (by omega), wnext h (by omega)]; rfl) k (by have := hl.1; omega)
 rw [flat_one] at this; exact this
theorem impl_storesCopy_at (l : List (List S72)) (hl : l.length ≤ 1048576) (hc : ∀ c ∈ l, SB c) (k : Nat) (hk : 4194304 < k) : impl_storesCopy.f k l = some l := by
 unfold impl_storesCopy.f
 have := app_loop l (fun k acc i => impl_storesCopy.l0 k acc l (l.length : Int) i) (fun x => [x]) 1048601 1 (by omega)
  (fun k acc _ => by simp only [impl_storesCopy.l0]; rw [if_neg (by omega)])
  (fun k acc i h hk ha => by
   have := take_sum l (fun _ => 1) (by simp) i; simp only [List.length_singleton] at ha; simp only [impl_storesCopy.l0]
   rw [if_pos (by omega), if_pos (by omega), if_pos (by omega), rd_store h, impl_storeCopy_at _ (hc _ (List.getElem_mem h)) k (by omega), bsome, if_pos (by omega), wnext h (by omega)]) k (by omega)
 rw [flat_one] at this; exact this
theorem histStep_at (n : List S72) (b a : List (List S72)) (hb : b ≠ []) (hl : b.length ≤ 50) (ha : a.length ≤ 50) : impl_histStep.f n b a = some (b.getD (b.length - 1) [], b.take (b.length - 1), a ++ [n]) := by
 have hp := List.length_pos_iff.2 hb
 unfold impl_histStep.f
 have hw : wrap64 ((b.length : Int) - 1) = ((b.length - 1 : Nat) : Int) := by rw [w64 (by omega) (by omega)]; omega
 rw [hw, if_pos (by omega), if_pos (by omega), if_pos (by omega)]
 rfl
theorem impl_copy_at {n : List S72} {b a : List (List S72)} (h : HX n b a) (k : Nat) (hk : 4194304 < k) : impl_histCopy.f k n b a = some (n, b, a) := by
 unfold impl_histCopy.f
 rw [impl_storeCopy_at n h.now k (by omega), bsome, impl_storesCopy_at b h.back.1 h.back.2 k hk, bsome, impl_storesCopy_at a h.ahead.1 h.ahead.2 k hk, bsome]
theorem valid_at {n : List S72} {b a : List (List S72)} (h : HX n b a) (k : Nat) (hk : 8388608 < k) : spec_validHist.f k n b a = some (histOk n b a) :=
 spec_hist_at n b a h.now h.back.1 h.back.2 h.ahead.1 h.ahead.2 k hk
theorem hok_at {n : List S72} {b a : List (List S72)} (h : HX n b a) (k : Nat) (hk : 8388608 < k) : impl_HistOk.f k n b a = some (histOk n b a) :=
 impl_hist_at n b a h.now h.back.1 h.back.2 h.ahead.1 h.ahead.2 k hk
def szmss (l : List (List S72)) : Nat := (l.map szms).sum
def lenss (l : List (List S72)) : Nat := (l.map List.length).sum
theorem szmss_cons (x : List S72) (l : List (List S72)) : szmss (x :: l) = szms x + szmss l := by unfold szmss; rw [List.map_cons, List.sum_cons]
theorem lenss_cons (x : List S72) (l : List (List S72)) : lenss (x :: l) = x.length + lenss l := by unfold lenss; rw [List.map_cons, List.sum_cons]
def mkStores : List (List S72) → Nat → List (List S72)
 | [], _ => []
 | x :: xs, a => mkCells x a :: mkStores xs (a + szms x)
theorem rdm_store (p : List (List S72)) (x : List S72) (r : List (List S72)) : rd_L7 (p ++ x :: r) (p.length : Int) = x := by
 unfold rd_L7
 simp [List.getD_eq_getElem?_getD]
theorem markCellSS_l : ∀ (l p : List (List S72)) (a k : Nat), p.length + l.length ≤ 1099511627776 → lenss l ≤ 1099511627776 → a + szmss l ≤ 1099511627776 → a + 2 * szmss l + lenss l + l.length < k → laws_markCellSS.l0 k (p ++ l) (a : Int) (p.length : Int) = some (((a + szmss l : Nat) : Int), p ++ mkStores l a) := by
 intro l
 induction l with
 | nil =>
  intro p a k hp hl ha hk
  obtain ⟨k, rfl⟩ : ∃ q, k = q + 1 := ⟨k - 1, by omega⟩; simp only [laws_markCellSS.l0]; rw [if_neg (by simp)]; simp [mkStores, szmss]
 | cons x l ih =>
  intro p a k hp hl ha hk
  rw [szmss_cons] at ha hk; rw [lenss_cons] at hl hk; simp only [List.length_cons] at hp hk; obtain ⟨k, rfl⟩ : ∃ q, k = q + 1 := ⟨k - 1, by omega⟩; simp only [laws_markCellSS.l0]; rw [if_pos (by rw [List.length_append, List.length_cons]; omega), if_pos (by omega), rdm_store, markCellS_at x a k (by omega) (by omega) (by omega), bsome, setm, wnext (i := p.length) (n := p.length + l.length + 1) (by omega) (by omega)]; have := ih (p ++ [mkCells x a]) (a + szms x) k (by rw [List.length_append]; simp only [List.length_cons, List.length_nil]; omega) (by omega) (by omega) (by omega); rw [List.length_append, ← snoc_cons, ← snoc_cons] at this; simp only [mkStores]; rw [szmss_cons, ← Nat.add_assoc a, ← this]; rfl
theorem markCellSS_at (l : List (List S72)) (a k : Nat) (h : l.length ≤ 1099511627776) (hl : lenss l ≤ 1099511627776) (ha : a + szmss l ≤ 1099511627776) (hk : a + 2 * szmss l + lenss l + l.length < k) : laws_markCellSS.f k l (a : Int) = some (((a + szmss l : Nat) : Int), mkStores l a) := by
 have := markCellSS_l l [] a k (by simpa using h) hl ha hk
 simpa [laws_markCellSS.f] using this
theorem heldCellSS_l : ∀ (l p : List (List S72)) (a k : Nat), p.length + l.length ≤ 1099511627776 → lenss l ≤ 1099511627776 → a + szmss l ≤ 1099511627776 → a + 2 * szmss l + lenss l + l.length < k → laws_heldCellSS.l0 k (p ++ mkStores l a) (a : Int) (p.length : Int) = some ((a + szmss l : Nat) : Int) := by
 intro l
 induction l with
 | nil =>
  intro p a k hp hl ha hk
  obtain ⟨k, rfl⟩ : ∃ q, k = q + 1 := ⟨k - 1, by omega⟩; rw [show mkStores [] a = [] from rfl]; simp only [laws_heldCellSS.l0]; rw [if_neg (by simp)]; simp [szmss]
 | cons x l ih =>
  intro p a k hp hl ha hk
  rw [szmss_cons] at ha hk; rw [lenss_cons] at hl hk; simp only [List.length_cons] at hp hk; obtain ⟨k, rfl⟩ : ∃ q, k = q + 1 := ⟨k - 1, by omega⟩; rw [show mkStores (x :: l) a = mkCells x a :: mkStores l (a + szms x) from rfl]; simp only [laws_heldCellSS.l0]; rw [if_pos (by rw [List.length_append, List.length_cons]; omega), if_pos (by omega), rdm_store, heldCellS_at x a k (by omega) (by omega) (by omega), bsome, if_neg (by omega), wnext (i := p.length) (n := p.length + l.length + 1) (by omega) (by omega)]; have := ih (p ++ [mkCells x a]) (a + szms x) k (by rw [List.length_append]; simp only [List.length_cons, List.length_nil]; omega) (by omega) (by omega) (by omega); rw [List.length_append, ← snoc_cons] at this; rw [szmss_cons, ← Nat.add_assoc a, ← this]; rfl
theorem heldCellSS_at (l : List (List S72)) (a k : Nat) (h : l.length ≤ 1099511627776) (hl : lenss l ≤ 1099511627776) (ha : a + szmss l ≤ 1099511627776) (hk : a + 2 * szmss l + lenss l + l.length < k) : laws_heldCellSS.f k (mkStores l a) (a : Int) = some ((a + szmss l : Nat) : Int) := by
 have := heldCellSS_l l [] a k (by simpa using h) hl ha hk
 simpa [laws_heldCellSS.f] using this
def szH (n : List S72) (b a : List (List S72)) : Nat := szms n + szmss b + szmss a
def lenH (n : List S72) (b a : List (List S72)) : Nat := n.length + (lenss b + b.length) + (lenss a + a.length)
def mkH (n : List S72) (b a : List (List S72)) : List S72 × List (List S72) × List (List S72) := (mkCells n 1, mkStores b (1 + szms n), mkStores a (1 + szms n + szmss b))
theorem markHist_at (n : List S72) (b a : List (List S72)) (h1 : szH n b a ≤ 16777216) (h2 : lenH n b a ≤ 16777216) (k : Nat) (hk : 67108870 < k) : laws_markHist.f k n b a 1 = some (((1 + szH n b a : Nat) : Int), mkH n b a) := by
 unfold szH at h1 ⊢
 unfold lenH at h2
 unfold mkH laws_markHist.f
 have e0 := markCellS_at n 1 k (by omega) (by omega) (by omega); have e1 := markCellSS_at b (1 + szms n) k (by omega) (by omega) (by omega) (by omega); have e2 := markCellSS_at a (1 + szms n + szmss b) k (by omega) (by omega) (by omega) (by omega); rw [show (1 : Int) = ((1 : Nat) : Int) from rfl, e0, bsome]
 show Option.bind (laws_markCellSS.f k b ((1 + szms n : Nat) : Int)) _ = _
 rw [e1, bsome]
 show Option.bind (laws_markCellSS.f k a ((1 + szms n + szmss b : Nat) : Int)) _ = _
 rw [e2, bsome, show 1 + (szms n + szmss b + szmss a) = 1 + szms n + szmss b + szmss a by omega]
theorem heldHist_at (n : List S72) (b a : List (List S72)) (h1 : szH n b a ≤ 16777216) (h2 : lenH n b a ≤ 16777216) (k : Nat) (hk : 67108870 < k) : laws_heldHist.f k (mkH n b a).1 (mkH n b a).2.1 (mkH n b a).2.2 1 = some ((1 + szH n b a : Nat) : Int) := by
 unfold szH at h1 ⊢
 unfold lenH at h2
 unfold mkH laws_heldHist.f
 have e0 := heldCellS_at n 1 k (by omega) (by omega) (by omega); have e1 := heldCellSS_at b (1 + szms n) k (by omega) (by omega) (by omega) (by omega); have e2 := heldCellSS_at a (1 + szms n + szmss b) k (by omega) (by omega) (by omega) (by omega)
 show Option.bind (laws_heldCellS.f k (mkCells n 1) ((1 : Nat) : Int)) _ = _
 rw [e0, bsome, if_neg (by omega)]
 show Option.bind (laws_heldCellSS.f k (mkStores b (1 + szms n)) ((1 + szms n : Nat) : Int)) _ = _
 rw [e1, bsome, if_neg (by omega)]
 show Option.bind (laws_heldCellSS.f k (mkStores a (1 + szms n + szmss b)) ((1 + szms n + szmss b : Nat) : Int)) _ = _
 rw [e2, bsome, if_neg (by omega), show 1 + (szms n + szmss b + szmss a) = 1 + szms n + szmss b + szmss a by omega]
theorem sum_last {l : List (List S72)} (hn : l ≠ []) (g : List S72 → Nat) : (l.map g).sum = ((l.take (l.length - 1)).map g).sum + g (l.getD (l.length - 1) []) := by
 have hp := List.length_pos_iff.2 hn
 have e : l = l.take (l.length - 1) ++ [l.getD (l.length - 1) []] := by
  conv => lhs; rw [← List.take_append_drop (l.length - 1) l]
  congr 1
  rw [List.getD_eq_getElem?_getD, List.getElem?_eq_getElem (show l.length - 1 < l.length by omega), List.drop_eq_getElem_cons (show l.length - 1 < l.length by omega), show l.length - 1 + 1 = l.length by omega, List.drop_length]
  rfl
 conv => lhs; rw [e]
 rw [List.map_append, List.sum_append]; simp
theorem sum_snoc (l : List (List S72)) (x : List S72) (g : List S72 → Nat) : ((l ++ [x]).map g).sum = (l.map g).sum + g x := by rw [List.map_append, List.sum_append]; simp
theorem len_last {l : List (List S72)} (hn : l ≠ []) : l.length = (l.take (l.length - 1)).length + 1 := by
 have hp := List.length_pos_iff.2 hn; rw [List.length_take]; omega
theorem undoR_sz (n : List S72) (b a : List (List S72)) : szH (undoR n b a).1 (undoR n b a).2.1 (undoR n b a).2.2.1 ≤ szH n b a ∧ lenH (undoR n b a).1 (undoR n b a).2.1 (undoR n b a).2.2.1 ≤ lenH n b a := by
 unfold undoR
 by_cases hc : histOk n b a = true ∧ b ≠ []
 ·rw [if_pos hc]
  have h1 := sum_last hc.2 szms; have h2 := sum_snoc a n szms; have h3 := sum_last hc.2 List.length; have h4 := sum_snoc a n List.length; have h5 := len_last hc.2
  unfold szH lenH szmss lenss
  simp only [h2, h4, List.length_append, List.length_singleton]
  omega
 ·rw [if_neg hc]; unfold szH lenH szmss lenss szms; simp
theorem redoR_sz (n : List S72) (b a : List (List S72)) : szH (redoR n b a).1 (redoR n b a).2.1 (redoR n b a).2.2.1 ≤ szH n b a ∧ lenH (redoR n b a).1 (redoR n b a).2.1 (redoR n b a).2.2.1 ≤ lenH n b a := by
 unfold redoR
 by_cases hc : histOk n b a = true ∧ a ≠ []
 ·rw [if_pos hc]
  have h1 := sum_last hc.2 szms; have h2 := sum_snoc b n szms; have h3 := sum_last hc.2 List.length; have h4 := sum_snoc b n List.length; have h5 := len_last hc.2
  unfold szH lenH szmss lenss
  simp only [h2, h4, List.length_append, List.length_singleton]
  omega
 ·rw [if_neg hc]; unfold szH lenH szmss lenss szms; simp
theorem szmss_map (l : List (List S89)) : szmss (l.map (fun s => s.map cCell)) ≤ 3 * (l.map szCells).sum := by
 induction l with
 | nil => simp [szmss]
 | cons x l ih => rw [List.map_cons, szmss_cons, List.map_cons, List.sum_cons]; have := szms_cCell x; omega
theorem lenss_map (l : List (List S89)) : lenss (l.map (fun s => s.map cCell)) ≤ (l.map szCells).sum := by
 induction l with
 | nil => simp [lenss]
 | cons x l ih =>
  rw [List.map_cons, lenss_cons, List.map_cons, List.sum_cons]
  have : x.length ≤ szCells x := by unfold szCells; omega
  rw [List.length_map]; omega
theorem hist_sz {n : List S89} {b a : List (List S89)} (hn : szCells n ≤ 1048576) (hb : szStores b ≤ 1048576) (ha : szStores a ≤ 1048576) : szH (n.map cCell) (b.map (fun s => s.map cCell)) (a.map (fun s => s.map cCell)) ≤ 16777216 ∧ lenH (n.map cCell) (b.map (fun s => s.map cCell)) (a.map (fun s => s.map cCell)) ≤ 16777216 := by
 unfold szStores at hb ha
 have h1 := szms_cCell n; have h2 := szmss_map b; have h3 := szmss_map a; have h4 := lenss_map b; have h5 := lenss_map a
 have h6 : n.length ≤ szCells n := by unfold szCells; omega
 unfold szH lenH
 simp only [List.length_map]
 omega
theorem impl_redo_at {n : List S72} {b a : List (List S72)} (h : HX n b a) (k : Nat) (hk : 8388700 < k) : impl_HistRedo.f k n b a = some (redoR n b a) := by
 obtain ⟨k, rfl⟩ : ∃ q, k = q + 1 := ⟨k - 1, by omega⟩
 unfold impl_HistRedo.f redoR
 rw [hok_at h (k + 1) (by omega), bsome]
 have jt : impl_HistRedo.j0 (k + 1) true n b a = some ([], [], [], false) := by simp only [impl_HistRedo.j0]; rw [if_pos trivial]
 by_cases ho : histOk n b a = true
 ·rw [if_pos ho]
  by_cases hb : a = []
  ·subst hb
   rw [if_neg (show ¬ (histOk n b [] = true ∧ ([] : List (List S72)) ≠ []) from fun q => q.2 rfl)]
   exact jt
  ·rw [if_pos ⟨ho, hb⟩, len_zero.2 hb]
   simp only [impl_HistRedo.j0]; have := histOk_len ho; rw [if_neg (by decide), impl_copy_at h k (by omega), bsome, histStep_at n a b hb (by omega) (by omega), bsome]
 ·rw [if_neg ho, if_neg (fun q => ho q.1)]; exact jt
theorem spec_redo_at {n : List S72} {b a : List (List S72)} (h : HX n b a) (k : Nat) (hk : 8388700 < k) : spec_HistRedo.f k n b a = some (redoR n b a) := by
 obtain ⟨k, rfl⟩ : ∃ q, k = q + 1 := ⟨k - 1, by omega⟩
 unfold spec_HistRedo.f redoR
 rw [valid_at h (k + 1) (by omega), bsome]
 have jt : spec_HistRedo.j0 (k + 1) true n b a = some ([], [], [], false) := by simp only [spec_HistRedo.j0]; rw [if_pos trivial]
 by_cases ho : histOk n b a = true
 ·rw [if_pos ho]
  by_cases hb : a = []
  ·subst hb
   rw [if_neg (show ¬ (histOk n b [] = true ∧ ([] : List (List S72)) ≠ []) from fun q => q.2 rfl)]
   exact jt
  ·have hp := List.length_pos_iff.2 hb
   have hl := h.ahead.1
   have hw : wrap64 ((a.length : Int) - 1) = ((a.length - 1 : Nat) : Int) := by rw [w64 (by omega) (by omega)]; omega
   have hx := last_SB h.ahead.2 hb; have hr : rd_L7 a ((a.length - 1 : Nat) : Int) = a.getD (a.length - 1) [] := rfl; have hn := h.now; rw [if_pos ⟨ho, hb⟩, len_zero.2 hb]; simp only [spec_HistRedo.j0]; rw [if_neg (by decide), hw, if_pos (by omega), if_pos (by omega), hr, spec_copyStore_at _ hx.1 hx.2 k (by have := hx.1; omega), bsome, spec_copyStores_at b (by have := h.back.1; omega) h.back.2 k (by omega), bsome, spec_copyStore_at n hn.1 hn.2 k (by have := hn.1; omega), bsome, if_pos (by have := h.back.1; omega), if_pos (by omega), spec_copyStores_at _ (by rw [List.length_take]; omega) (fun c hc => h.ahead.2 c (List.mem_of_mem_take hc)) k (by omega), bsome]
   rfl
 ·rw [if_neg ho, if_neg (fun q => ho q.1)]; exact jt
def G127 (x : S127) : Prop := (Lit.int .i64 x.f0).wf = true ∧ ((Lit.int .i64 x.f1).wf = true)
def G125 (x : S125) : Prop := (Lit.int .i64 x.f0).wf = true ∧ ((Lit.int .i64 x.f1).wf = true ∧ (x.f2.size ≤ maxLen))
def G89 (x : S89) : Prop := (x.f0.length ≤ maxLen ∧ ∀ ex_f0 ∈ x.f0, G127 ex_f0) ∧ ((x.f1.length ≤ maxLen ∧ ∀ ex_f1 ∈ x.f1, G125 ex_f1))
def G36 (x : (List (S89)) × (List (List (S89))) × List (List (S89))) : Prop := (x.1.length ≤ maxLen ∧ ∀ ex_1 ∈ x.1, G89 ex_1) ∧ ((x.2.1.length ≤ maxLen ∧ ∀ ex_2_1 ∈ x.2.1, (ex_2_1.length ≤ maxLen ∧ ∀ eex_2_1 ∈ ex_2_1, G89 eex_2_1)) ∧ ((x.2.2.length ≤ maxLen ∧ ∀ ex_2_2 ∈ x.2.2, (ex_2_2.length ≤ maxLen ∧ ∀ eex_2_2 ∈ ex_2_2, G89 eex_2_2))))
def PureFnExactHistRedo : Prop := ∀ (a0 : (List (S89)) × (List (List (S89))) × List (List (S89))), G36 a0 → ∃ k, laws_FnExactHistRedo.f k a0.1 a0.2.1 a0.2.2 = some true
theorem FnExactHistRedo : PureFnExactHistRedo := by
 rintro ⟨n, b, a⟩ ⟨⟨hn, hn'⟩, ⟨hb, hb'⟩, ha, ha'⟩
 simp only
 obtain ⟨K, hK⟩ : ∃ K : Nat, K = 134217728 := ⟨_, rfl⟩
 refine ⟨K + 3, ?_⟩
 have gc : ∀ l : List S89, l.length ≤ maxLen → (∀ x ∈ l, G89 x) → GC l := fun l h h' => ⟨h, fun x hx => ⟨(h' x hx).1.1, (h' x hx).2.1, fun v hv => ((h' x hx).2.2 v hv).2.2⟩⟩
 obtain ⟨r, hr, h1⟩ := szHist_at n b a (gc n hn hn') hb (fun x hx => gc x (hb' x hx).1 (hb' x hx).2) ha (fun x hx => gc x (ha' x hx).1 (ha' x hx).2) (K + 3) (by omega)
 unfold laws_FnExactHistRedo.f
 rw [hr, bsome]
 by_cases h : r < 0
 ·rw [if_pos h]
 rw [if_neg h]; obtain ⟨h2, h3, h4⟩ := h1 (by omega); obtain ⟨h5, h6⟩ := cells_CB h2; obtain ⟨h7, h8⟩ := stores_SB h3; obtain ⟨h9, h10⟩ := stores_SB h4; have hX : HX (n.map cCell) (b.map (fun s => s.map cCell)) (a.map (fun s => s.map cCell)) := ⟨⟨by simpa using h5, h6⟩, ⟨by simpa using h7, h8⟩, ⟨by simpa using h9, h10⟩⟩; obtain ⟨z1, z2⟩ := hist_sz h2 h3 h4
 have hto : ∀ q, 8388700 < q → laws_toHist.f q n b a = some (n.map cCell, b.map (fun s => s.map cCell), a.map (fun s => s.map cCell)) := fun q hq => toHist_at n b a h2 h3 h4 q (by omega)
 generalize n.map cCell = n0 at *; generalize b.map (fun s => s.map cCell) = b0 at *; generalize a.map (fun s => s.map cCell) = a0 at *
 have hsp : ∀ q, 8388700 < q → spec_HistRedo.f q n0 b0 a0 = some (redoR n0 b0 a0) := fun q hq => spec_redo_at hX q hq
 have him : ∀ q, 8388700 < q → impl_HistRedo.f q n0 b0 a0 = some (redoR n0 b0 a0) := fun q hq => impl_redo_at hX q hq
 have hR := redoR_HX hX; obtain ⟨y1, y2⟩ := redoR_sz n0 b0 a0; generalize redoR n0 b0 a0 = g at *; obtain ⟨n1, b1, a1, ok⟩ := g; have hR' : HX n1 b1 a1 := hR; have y1' : szH n1 b1 a1 ≤ szH n0 b0 a0 := y1; have y2' : lenH n1 b1 a1 ≤ lenH n0 b0 a0 := y2
 have he0 : ∀ q, 8388700 < q → laws_eqHist.f q n0 b0 a0 n0 b0 a0 = some true := fun q hq => eqHist_refl n0 b0 a0 hX.now hX.back.1 hX.back.2 hX.ahead.1 hX.ahead.2 q (by omega)
 have he1 : ∀ q, 8388700 < q → laws_eqHist.f q n1 b1 a1 n1 b1 a1 = some true := fun q hq => eqHist_refl n1 b1 a1 hR'.now hR'.back.1 hR'.back.2 hR'.ahead.1 hR'.ahead.2 q (by omega)
 have hm0 : ∀ q, 67108870 < q → laws_markHist.f q n0 b0 a0 1 = some (((1 + szH n0 b0 a0 : Nat) : Int), mkH n0 b0 a0) := fun q hq => markHist_at n0 b0 a0 z1 z2 q hq
 have hm1 : ∀ q, 67108870 < q → laws_markHist.f q n1 b1 a1 1 = some (((1 + szH n1 b1 a1 : Nat) : Int), mkH n1 b1 a1) := fun q hq => markHist_at n1 b1 a1 (by omega) (by omega) q hq
 have hh1 : ∀ q, 67108870 < q → laws_heldHist.f q (mkH n1 b1 a1).1 (mkH n1 b1 a1).2.1 (mkH n1 b1 a1).2.2 1 = some ((1 + szH n1 b1 a1 : Nat) : Int) := fun q hq => heldHist_at n1 b1 a1 (by omega) (by omega) q hq
 have j2 : laws_FnExactHistRedo.j2 (K + 1) ((1 + szH n1 b1 a1 : Nat) : Int) false (mkH n1 b1 a1).1 (mkH n1 b1 a1).2.1 (mkH n1 b1 a1).2.2 = some true := by
  simp only [laws_FnExactHistRedo.j2]; rw [if_neg (by decide), hh1 K (by omega), bsome, if_neg (by omega), if_pos rfl]
 have j1 : laws_FnExactHistRedo.j1 (K + 2) ok false n b a n1 b1 a1 n1 b1 a1 = some true := by
  simp only [laws_FnExactHistRedo.j1]; rw [if_neg (by decide), hm1 (K + 1) (by omega), bsome]
  show Option.bind (laws_heldHist.f (K + 1) (mkH n1 b1 a1).1 (mkH n1 b1 a1).2.1 (mkH n1 b1 a1).2.2 1) _ = _
  rw [hh1 (K + 1) (by omega), bsome, if_neg (by omega), if_pos rfl, hto (K + 1) (by omega), bsome]
  show Option.bind (impl_HistRedo.f (K + 1) n0 b0 a0) _ = _
  rw [him (K + 1) (by omega), bsome]
  show Option.bind (laws_eqHist.f (K + 1) n1 b1 a1 n1 b1 a1) _ = _
  rw [he1 (K + 1) (by omega), bsome, if_pos rfl]
  show laws_FnExactHistRedo.j2 (K + 1) ((1 + szH n1 b1 a1 : Nat) : Int) (ok != ok) (mkH n1 b1 a1).1 (mkH n1 b1 a1).2.1 (mkH n1 b1 a1).2.2 = _
  rw [bne_self_eq_false]; exact j2
 have j0 : laws_FnExactHistRedo.j0 (K + 3) ok ok false n b a n1 b1 a1 n0 b0 a0 n1 b1 a1 = some true := by
  simp only [laws_FnExactHistRedo.j0]; rw [if_neg (by decide), hto (K + 2) (by omega), bsome]
  show Option.bind (laws_eqHist.f (K + 2) n0 b0 a0 n0 b0 a0) _ = _
  rw [he0 (K + 2) (by omega), bsome, if_pos rfl, hm0 (K + 2) (by omega), bsome, if_neg (by show ¬ (((1 + szH n0 b0 a0 : Nat) : Int) < 0); omega), he1 (K + 2) (by omega), bsome, if_pos rfl, bne_self_eq_false]; exact j1
 rw [hto (K + 3) (by omega), bsome]
 show Option.bind (spec_HistRedo.f (K + 3) n0 b0 a0) _ = _
 rw [hsp (K + 3) (by omega), bsome, bsome]
 show Option.bind (impl_HistRedo.f (K + 3) n0 b0 a0) _ = _
 rw [him (K + 3) (by omega), bsome]
 show Option.bind (laws_eqHist.f (K + 3) n1 b1 a1 n1 b1 a1) _ = _
 rw [he1 (K + 3) (by omega), bsome, if_pos rfl]
 show laws_FnExactHistRedo.j0 (K + 3) ok ok (ok != ok) n b a n1 b1 a1 n0 b0 a0 n1 b1 a1 = _
 rw [bne_self_eq_false]; exact j0
end Go.Proofs.Ytgbbcebjgpoioaa.Pure
