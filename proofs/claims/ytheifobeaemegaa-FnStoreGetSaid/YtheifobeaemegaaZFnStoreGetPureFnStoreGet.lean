/- The pure statement of the law 'FnStoreGet': for every list of bytes the law's function returns true (no condition but that of the form: the list's length). -/
import Derived.Test.YtheifobeaemegaaZFnStoreGetQFnStoreGetx14
namespace Go.Proofs.Ytheifobeaemegaa.Pure
open Go Go.RowKit Go.Proofs.Ytheifobeaemegaa.PFnStoreGet Go.Proofs.YtheifobeaemegaaW.PrintWords Go.Proofs.YtheifobeaemegaaW.PrintLast
set_option linter.unusedVariables false
set_option linter.unusedSimpArgs false
theorem w64 {n : Int} (h1 : -9223372036854775808 ≤ n) (h2 : n ≤ 9223372036854775807) : wrap64 n = n := by
 unfold wrap64; omega
theorem wnext {i n : Nat} (h : i < n) (hn : n ≤ 4611686018427387904) : wrap64 ((i : Int) + 1) = ((i + 1 : Nat) : Int) := by
 rw [w64 (by omega) (by omega)]; omega
theorem loop_up {n : Nat} (Q : Nat → Nat → Prop) (last : ∀ k, Q (k + 1) n) (step : ∀ k i, i < n → Q k (i + 1) → Q (k + 1) i) : ∀ k i, i ≤ n → n - i < k → Q k i := by
 intro k
 induction k with
 | zero => intro i _ h; omega
 | succ k ih =>
  intro i hi hk
  by_cases h : i = n
  ·subst h; exact last k
  ·exact step k i (by omega) (ih (i + 1) (by omega) (by omega))
theorem drop_at {α : Type} {l : List α} {i : Nat} (d : α) (h : i < l.length) : l.drop i = l.getD ((i : Int)).toNat d :: l.drop (i + 1) := by
 rw [List.drop_eq_getElem_cons h, List.getD_eq_getElem?_getD]
 simp [h]
theorem range_at {i n : Nat} (h : i < n) : List.range' i (n - i) = i :: List.range' (i + 1) (n - (i + 1)) := by
 rw [show n - i = (n - (i + 1)) + 1 by omega, List.range'_succ]
theorem range_end (n : Nat) : List.range' n (n - n) = [] := by simp
theorem bsome {α β : Type} (a : α) (f : α → Option β) : (some a).bind f = f a := by
 cases h : f a <;> simp [h]
theorem getD_at {α : Type} {l : List α} {i : Nat} (d : α) (h : i < l.length) : l.getD ((i : Int)).toNat d = l[i] := by
 simp [List.getD_eq_getElem?_getD, h]
theorem drop_cons {α : Type} {l : List α} {i : Nat} (h : i < l.length) : l.drop i = l[i] :: l.drop (i + 1) := List.drop_eq_getElem_cons h
theorem loop_s {n m s : Nat} (hs : 0 < s) (Q : Nat → Nat → Prop) (last : ∀ k, m ≤ k → Q (k + 1) n) (step : ∀ k i, i < n → m ≤ k → Q k (i + 1) → Q (k + s) i) : ∀ d i k, n - i = d → i ≤ n → d * s + m < k → Q k i := by
 intro d
 induction d with
 | zero =>
  intro i k hd hi hk
  obtain rfl : i = n := by omega
  obtain ⟨k, rfl⟩ : ∃ q, k = q + 1 := ⟨k - 1, by omega⟩
  exact last k (by omega)
 | succ d ih =>
  intro i k hd hi hk
  rw [Nat.add_mul, Nat.one_mul] at hk
  obtain ⟨k, rfl⟩ : ∃ q, k = q + s := ⟨k - s, by omega⟩
  exact step k i (by omega) (by omega) (ih (i + 1) k (by omega) (by omega) (by omega))
theorem all_loop {α : Type} (xs : List α) (F : Nat → Int → Option Bool) (p : α → Bool) (fin : Bool) (m s : Nat) (hs : 0 < s)
  (hend : ∀ k, m ≤ k → F (k + 1) (xs.length : Int) = some fin)
  (hstep : ∀ k i (h : i < xs.length), m ≤ k → F (k + s) (i : Int) = if p xs[i] = true then F k ((i + 1 : Nat) : Int) else some false) :
  ∀ k, xs.length * s + m < k → F k 0 = some (xs.all p && fin) := by
 intro k hk
 have := loop_s (n := xs.length) (m := m) (s := s) hs (fun k i => F k (i : Int) = some ((xs.drop i).all p && fin)) (fun k hm => by show F (k + 1) (xs.length : Int) = _; rw [hend k hm, List.drop_length]; rfl)
  (fun k i h hm ih => by
   show F (k + s) (i : Int) = _
   rw [hstep k i h hm, drop_cons h, List.all_cons]
   have ih' : F k ((i + 1 : Nat) : Int) = some ((xs.drop (i + 1)).all p && fin) := ih
   rw [ih']
   by_cases hp : p xs[i] = true <;> simp [hp]) xs.length 0 k (by omega) (by omega) hk
 simpa using this
theorem map_loop {α β : Type} (xs : List α) (F : Nat → List β → Int → Option (List β)) (c : α → β) (z : β) (m s : Nat) (hs : 0 < s)
  (hend : ∀ k acc, m ≤ k → F (k + 1) acc (xs.length : Int) = some acc)
  (hstep : ∀ k (acc : List β) i (h : i < xs.length), m ≤ k → i < acc.length → F (k + s) acc (i : Int) = F k (acc.set i (c xs[i])) ((i + 1 : Nat) : Int)) :
  ∀ k, xs.length * s + m < k → F k (List.replicate xs.length z) 0 = some (xs.map c) := by
 intro k hk
 have := loop_s (n := xs.length) (m := m) (s := s) hs (fun k i => ∀ p : List β, p.length = i → F k (p ++ List.replicate (xs.length - i) z) (i : Int) = some (p ++ (xs.drop i).map c))
  (fun k hm p hp => by rw [hend k _ hm]; simp)
  (fun k i h hm ih p hp => by
   rw [hstep k _ i h hm (by simp; omega), show xs.length - i = (xs.length - (i + 1)) + 1 by omega, List.replicate_succ]
   have e : (p ++ z :: List.replicate (xs.length - (i + 1)) z).set i (c xs[i]) = (p ++ [c xs[i]]) ++ List.replicate (xs.length - (i + 1)) z := by
    subst hp; simp
   rw [e, ih (p ++ [c xs[i]]) (by simp [hp]), drop_cons h, List.map_cons, List.append_assoc]; rfl) xs.length 0 k (by omega) (by omega) hk [] rfl
 simpa using this
theorem sz_loop {α : Type} (xs : List α) (F : Nat → Int → Int → Option Int) (sz : α → Nat) (m s : Nat) (hs : 0 < s)
  (hend : ∀ (k : Nat) (left : Int), m ≤ k → F (k + 1) left (xs.length : Int) = some left)
  (hstep : ∀ (k : Nat) (left : Int) (i : Nat) (h : i < xs.length), m ≤ k → 0 ≤ left → left ≤ 1048576 → ∃ t, t ≤ left ∧ (0 ≤ t → t = left - sz xs[i]) ∧ F (k + s) left (i : Int) = if t < 0 then some (-1) else F k t ((i + 1 : Nat) : Int)) :
  ∀ (k : Nat) (left : Int), xs.length * s + m < k → 0 ≤ left → left ≤ 1048576 → ∃ r, F k left 0 = some r ∧ r ≤ left ∧ (0 ≤ r → r = left - (xs.map sz).sum) := by
 intro k left hk h0 h1
 have := loop_s (n := xs.length) (m := m) (s := s) hs (fun k i => ∀ left : Int, 0 ≤ left → left ≤ 1048576 → ∃ r, F k left (i : Int) = some r ∧ r ≤ left ∧ (0 ≤ r → r = left - ((xs.drop i).map sz).sum))
  (fun k hm left h0 h1 => ⟨left, by rw [hend k _ hm], by omega, by simp⟩)
  (fun k i h hm ih left h0 h1 => by
   obtain ⟨t, t1, t2, t3⟩ := hstep k left i h hm h0 h1
   by_cases ht : t < 0
   ·exact ⟨-1, by rw [t3, if_pos ht], by omega, by omega⟩
   ·obtain ⟨r, r1, r2, r3⟩ := ih t (by omega) (by omega)
    refine ⟨r, by rw [t3, if_neg ht, r1], by omega, fun hr => ?_⟩
    rw [r3 hr, t2 (by omega), drop_cons h, List.map_cons, List.sum_cons]; omega) xs.length 0 k (by omega) (by omega) hk left h0 h1
 simpa using this
theorem sum_mem {α : Type} {xs : List α} {sz : α → Nat} {x : α} (h : x ∈ xs) : sz x ≤ (xs.map sz).sum := by
 induction xs with
 | nil => cases h
 | cons y ys ih =>
  rw [List.map_cons, List.sum_cons]
  rcases List.mem_cons.1 h with rfl | h
  ·omega
  ·have := ih h; omega
theorem within_at (a b c : Int) : impl_within.f a b c = some (decide (b ≤ a ∧ a ≤ c)) := by
 unfold impl_within.f
 by_cases h : a ≥ b
 ·rw [if_pos h]; congr 1; exact decide_eq_decide.mpr ⟨fun x => ⟨h, x⟩, fun x => x.2⟩
 ·rw [if_neg h]; congr 1; exact (decide_eq_false fun x => h x.1).symm
theorem inRange_at (a b c : Int) : spec_inRange.f a b c = some (decide (b ≤ a ∧ a ≤ c)) := by
 unfold spec_inRange.f
 by_cases h : a ≥ b
 ·rw [if_pos h]; congr 1; exact decide_eq_decide.mpr ⟨fun x => ⟨h, x⟩, fun x => x.2⟩
 ·rw [if_neg h]; congr 1; exact (decide_eq_false fun x => h x.1).symm
def Good (c : Int) : Prop := (97 ≤ c ∧ c ≤ 122) ∨ (48 ≤ c ∧ c ≤ 57) ∨ c = 32
instance (c : Int) : Decidable (Good c) := by unfold Good; exact inferInstance
def goodsFrom (s : ByteArray) (i : Nat) : Bool := (List.range' i (s.size - i)).all fun j => decide (Good (bt s j))
theorem goods_at {s : ByteArray} {i : Nat} (h : i < s.size) : goodsFrom s i = (decide (Good (bt s i)) && goodsFrom s (i + 1)) := by
 unfold goodsFrom; rw [range_at h]; rfl
theorem goods_end (s : ByteArray) : goodsFrom s s.size = true := by
 unfold goodsFrom; rw [range_end]; rfl
def wordOk (s : ByteArray) : Bool := goodsFrom s 0 && decide (s.size ≤ 12)
theorem impl_word_l (s : ByteArray) (hs : s.size ≤ 4611686018427387904) : ∀ k i, i ≤ s.size → s.size - i < k → impl_word.l0 k s (i : Int) = some (goodsFrom s i && decide (s.size ≤ 12)) := by
 refine loop_up (fun k i => impl_word.l0 k s (i : Int) = some (goodsFrom s i && decide (s.size ≤ 12))) ?_ ?_
 ·intro k
  simp only [impl_word.l0]
  rw [if_neg (by omega), goods_end, Bool.true_and]
  congr 1; exact decide_eq_decide.mpr (by omega)
 ·intro k i hi ih
  have e : impl_word.l0 (k + 1) s (i : Int) = if Good (bt s i) then impl_word.l0 k s (wrap64 ((i : Int) + 1)) else some false := by
   simp only [impl_word.l0]
   rw [if_pos (by omega), if_pos (by omega)]
   by_cases hg : Good (bt s i)
   ·rw [if_pos hg]; unfold Good at hg
    repeat' split
    all_goals first
     | rfl
     | (exfalso; omega)
   ·rw [if_neg hg]; unfold Good at hg
    repeat' split
    all_goals first
     | rfl
     | (exfalso; omega)
  rw [e, wnext hi hs, ih, goods_at hi]
  by_cases hg : Good (bt s i) <;> simp [hg]
theorem impl_word_at (s : ByteArray) (hs : s.size ≤ 4611686018427387904) (k : Nat) (hk : s.size < k) : impl_word.f k s = some (wordOk s) := by
 have := impl_word_l s hs k 0 (by omega) (by omega)
 unfold impl_word.f wordOk
 exact this
theorem plain_at (c : Int) : spec_plainByte.f c = some (decide (Good c)) := by
 unfold spec_plainByte.f
 by_cases hg : Good c
 ·rw [decide_eq_true hg]; unfold Good at hg
  repeat' split
  all_goals first
   | rfl
   | (congr 1; exact beq_iff_eq.mpr (by omega))
   | (exfalso; omega)
 ·rw [decide_eq_false hg]; unfold Good at hg
  repeat' split
  all_goals first
   | rfl
   | (congr 1; exact beq_eq_false_iff_ne.mpr (by omega))
   | (exfalso; omega)
theorem spec_word_l (s : ByteArray) (hs : s.size ≤ 4611686018427387904) : ∀ k i, i ≤ s.size → s.size - i < k → spec_validWord.l0 k s (i : Int) = some (goodsFrom s i) := by
 refine loop_up (fun k i => spec_validWord.l0 k s (i : Int) = some (goodsFrom s i)) ?_ ?_
 ·intro k
  simp only [spec_validWord.l0]
  rw [if_neg (by omega), goods_end]
 ·intro k i hi ih
  simp only [spec_validWord.l0]
  rw [if_pos (by omega), if_pos (by omega), plain_at, goods_at hi]
  simp only [Option.bind_some, wnext hi hs, ih]
  by_cases hg : Good (bt s i) <;> simp [hg]
theorem spec_word_at (s : ByteArray) (hs : s.size ≤ 4611686018427387904) (k : Nat) (hk : s.size < k) : spec_validWord.f k s = some (wordOk s) := by
 have := spec_word_l s hs k 0 (by omega) (by omega)
 unfold spec_validWord.f wordOk
 by_cases h : (s.size : Int) > 12
 ·rw [if_pos h, show decide (s.size ≤ 12) = false from decide_eq_false (by omega), Bool.and_false]
 ·rw [if_neg h, show decide (s.size ≤ 12) = true from decide_eq_true (by omega), Bool.and_true]; exact this
def vOk (a b : Int) (s : ByteArray) : Bool :=
 if a = 0 then (if b = 0 then s.toList == ([] : List UInt8) else false)
 else if a = 1 then (if -1000 ≤ b ∧ b ≤ 1000 then s.toList == ([] : List UInt8) else false)
 else if a = 2 then (if b = 0 then wordOk s else false) else false
theorem impl_valOk_at (a b : Int) (s : ByteArray) (hs : s.size ≤ 4611686018427387904) (k : Nat) (hk : s.size < k) : impl_ValOk.f k a b s = some (vOk a b s) := by
 unfold impl_ValOk.f vOk
 simp only [within_at, impl_word_at s hs k hk, Option.bind_some, decide_eq_true_eq]
 repeat' split
 all_goals rfl
theorem spec_val_at (a b : Int) (s : ByteArray) (hs : s.size ≤ 4611686018427387904) (k : Nat) (hk : s.size < k) : spec_validValue.f k a b s = some (vOk a b s) := by
 unfold spec_validValue.f vOk
 simp only [inRange_at, spec_word_at s hs k hk, Option.bind_some, decide_eq_true_eq]
 repeat' split
 all_goals rfl
def slotOk (x : S68) : Bool := decide (0 ≤ x.f0 ∧ x.f0 ≤ 3) && decide (0 ≤ x.f1 ∧ x.f1 ≤ 103)
theorem rd_slot {l : List S68} {i : Nat} (h : i < l.length) : l.drop i = rd_T68 l (i : Int) :: l.drop (i + 1) := drop_at z68 h
def plOk (l : List S68) : Bool := l.all slotOk && decide (l.length ≤ 20)
theorem validSlot_at (x : S68) : spec_validSlot.f x.f0 x.f1 = some (slotOk x) := by
 unfold spec_validSlot.f slotOk
 simp only [inRange_at, Option.bind_some]
 by_cases h : 0 ≤ x.f0 ∧ x.f0 ≤ 3 <;> simp [h]
theorem spec_place_l (l : List S68) (hl : l.length ≤ 4611686018427387904) : ∀ k i, i ≤ l.length → l.length - i < k → spec_validPlace.l0 k l (i : Int) = some ((l.drop i).all slotOk) := by
 refine loop_up (fun k i => spec_validPlace.l0 k l (i : Int) = some ((l.drop i).all slotOk)) ?_ ?_
 ·intro k
  simp only [spec_validPlace.l0]
  rw [if_neg (by omega), List.drop_length]; rfl
 ·intro k i hi ih
  simp only [spec_validPlace.l0]
  rw [if_pos (by omega), if_pos (by omega), validSlot_at, rd_slot hi]
  simp only [Option.bind_some, wnext hi hl, ih, List.all_cons]
  by_cases hg : slotOk (rd_T68 l (i : Int)) = true <;> simp [hg]
theorem spec_place_at (l : List S68) (hl : l.length ≤ 4611686018427387904) (k : Nat) (hk : l.length < k) : spec_validPlace.f k l = some (plOk l) := by
 have := spec_place_l l hl k 0 (by omega) (by omega)
 unfold spec_validPlace.f plOk
 by_cases h : (l.length : Int) > 20
 ·rw [if_pos h, show decide (l.length ≤ 20) = false from decide_eq_false (by omega), Bool.and_false]
 ·rw [if_neg h, show decide (l.length ≤ 20) = true from decide_eq_true (by omega), Bool.and_true]; exact this
theorem impl_place_l (l : List S68) (hl : l.length ≤ 4611686018427387904) : ∀ k i, i ≤ l.length → l.length - i < k → impl_PlaceOk.l0 k l l (l.length : Int) (i : Int) = some ((l.drop i).all slotOk && decide (l.length ≤ 20)) := by
 refine loop_up (fun k i => impl_PlaceOk.l0 k l l (l.length : Int) (i : Int) = some ((l.drop i).all slotOk && decide (l.length ≤ 20))) ?_ ?_
 ·intro k
  simp only [impl_PlaceOk.l0]
  rw [if_neg (by omega), List.drop_length]
  simp only [List.all_nil, Bool.true_and]
  congr 1; exact decide_eq_decide.mpr (by omega)
 ·intro k i hi ih
  simp only [impl_PlaceOk.l0]
  rw [if_pos (by omega), if_pos (by omega), if_pos (by omega), rd_slot hi]
  simp only [within_at, Option.bind_some, wnext hi hl, ih, List.all_cons, slotOk, decide_eq_true_eq]
  by_cases h0 : 0 ≤ (rd_T68 l (i : Int)).f0 ∧ (rd_T68 l (i : Int)).f0 ≤ 3
  ·by_cases h1 : 0 ≤ (rd_T68 l (i : Int)).f1 ∧ (rd_T68 l (i : Int)).f1 ≤ 103
   ·rw [if_pos h0, if_pos h1]; simp [h0, h1]
   ·rw [if_pos h0, if_neg h1]; simp [h0, h1]
  ·rw [if_neg h0]; simp [h0]
theorem impl_place_at (l : List S68) (hl : l.length ≤ 4611686018427387904) (k : Nat) (hk : l.length < k) : impl_PlaceOk.f k l = some (plOk l) := by
 have := impl_place_l l hl k 0 (by omega) (by omega)
 unfold impl_PlaceOk.f plOk
 exact this
def cmp : List S68 → List S68 → Int
 | [], [] => 0
 | [], _ :: _ => -1
 | _ :: _, [] => 1
 | x :: xs, y :: ys => if x.f0 = y.f0 ∧ x.f1 = y.f1 then cmp xs ys else if x.f0 < y.f0 ∨ (x.f0 = y.f0 ∧ x.f1 < y.f1) then -1 else 1
theorem cmp_end {a b : List S68} (i : Nat) (h : i = min a.length b.length) : cmp (a.drop i) (b.drop i) = if (a.length : Int) < (b.length : Int) then -1 else if (a.length : Int) > (b.length : Int) then 1 else 0 := by
 by_cases h1 : a.length < b.length
 ·rw [if_pos (by omega), List.drop_of_length_le (by omega : a.length ≤ i), drop_at z68 (by omega : i < b.length)]; rfl
 ·rw [if_neg (by omega), List.drop_of_length_le (by omega : b.length ≤ i)]
  by_cases h2 : b.length < a.length
  ·rw [if_pos (by omega), drop_at z68 (by omega : i < a.length)]; rfl
  ·rw [if_neg (by omega), List.drop_of_length_le (by omega : a.length ≤ i)]; rfl
theorem cmp_next {a b : List S68} {i : Nat} (ha : i < a.length) (hb : i < b.length) : cmp (a.drop i) (b.drop i) =
  (if (rd_T68 a (i : Int)).f0 = (rd_T68 b (i : Int)).f0 ∧ (rd_T68 a (i : Int)).f1 = (rd_T68 b (i : Int)).f1 then cmp (a.drop (i + 1)) (b.drop (i + 1)) else
   if (rd_T68 a (i : Int)).f0 < (rd_T68 b (i : Int)).f0 ∨ ((rd_T68 a (i : Int)).f0 = (rd_T68 b (i : Int)).f0 ∧ (rd_T68 a (i : Int)).f1 < (rd_T68 b (i : Int)).f1) then -1 else 1) := by
 rw [rd_slot ha, rd_slot hb]; rfl
theorem cmp_refl (a : List S68) : cmp a a = 0 := by
 induction a with
 | nil => rfl
 | cons x xs ih => unfold cmp; rw [if_pos ⟨rfl, rfl⟩]; exact ih
theorem cmp_zero {a b : List S68} (h : cmp a b = 0) : a = b := by
 induction a generalizing b with
 | nil => cases b with
  | nil => rfl
  | cons y ys => simp [cmp] at h
 | cons x xs ih => cases b with
  | nil => simp [cmp] at h
  | cons y ys =>
   unfold cmp at h
   by_cases e : x.f0 = y.f0 ∧ x.f1 = y.f1
   ·rw [if_pos e] at h
    rw [ih h]
    obtain ⟨x0, x1⟩ := x; obtain ⟨y0, y1⟩ := y
    obtain ⟨e0, e1⟩ := e
    simp only at e0 e1
    rw [e0, e1]
   ·rw [if_neg e] at h; split at h <;> omega
theorem cmp_neg (a b : List S68) : cmp b a = - cmp a b := by
 induction a generalizing b with
 | nil => cases b <;> rfl
 | cons x xs ih => cases b with
  | nil => rfl
  | cons y ys =>
   unfold cmp
   by_cases e : x.f0 = y.f0 ∧ x.f1 = y.f1
   ·rw [if_pos e, if_pos ⟨e.1.symm, e.2.symm⟩]; exact ih ys
   ·rw [if_neg e, if_neg (fun q => e ⟨q.1.symm, q.2.symm⟩)]
    by_cases l : x.f0 < y.f0 ∨ (x.f0 = y.f0 ∧ x.f1 < y.f1)
    ·rw [if_pos l, if_neg (by omega)]; rfl
    ·rw [if_neg l, if_pos (by omega)]
theorem cmp_three (a b : List S68) : cmp a b = -1 ∨ cmp a b = 0 ∨ cmp a b = 1 := by
 induction a generalizing b with
 | nil => cases b <;> simp [cmp]
 | cons x xs ih => cases b with
  | nil => simp [cmp]
  | cons y ys =>
   unfold cmp
   split
   ·exact ih ys
   ·split <;> simp
theorem impl_cmp_l (a b : List S68) (hb : b.length ≤ 4611686018427387904) : ∀ k i, i ≤ min a.length b.length → min a.length b.length - i < k → impl_placeCmp.l0 k a b ((min a.length b.length : Nat) : Int) (i : Int) = some (cmp (a.drop i) (b.drop i)) := by
 refine loop_up (fun k i => impl_placeCmp.l0 k a b ((min a.length b.length : Nat) : Int) (i : Int) = some (cmp (a.drop i) (b.drop i))) ?_ ?_
 ·intro k
  simp only [impl_placeCmp.l0]
  rw [if_neg (by omega), cmp_end _ rfl]
  repeat' split
  all_goals rfl
 ·intro k i hi ih
  have ha' : i < a.length := by omega
  have hb' : i < b.length := by omega
  simp only [impl_placeCmp.l0]
  rw [if_pos (by omega), if_pos (by omega), if_pos (by omega), if_pos (by omega), wnext hi (by omega), ih, cmp_next ha' hb']
  generalize rd_T68 a (i : Int) = x
  generalize rd_T68 b (i : Int) = y
  by_cases e : x.f0 = y.f0 ∧ x.f1 = y.f1
  ·rw [if_pos e, if_pos (by simp [e])]
  ·rw [if_neg e, if_neg (by simpa using e)]
   by_cases l : x.f0 < y.f0 ∨ (x.f0 = y.f0 ∧ x.f1 < y.f1)
   ·rw [if_pos l]
    repeat' split
    all_goals first
     | rfl
     | (exfalso; omega)
   ·rw [if_neg l]
    repeat' split
    all_goals first
     | rfl
     | (exfalso; omega)
theorem impl_cmp_at (a b : List S68) (hb : b.length ≤ 4611686018427387904) (k : Nat) (hk : min a.length b.length < k) : impl_placeCmp.f k a b = some (cmp a b) := by
 have := impl_cmp_l a b hb k 0 (by omega) (by omega)
 unfold impl_placeCmp.f
 rw [show mn (a.length : Int) (b.length : Int) = ((min a.length b.length : Nat) : Int) by unfold mn; split <;> omega]
 exact this
theorem spec_cmp_l (a b : List S68) (hb : b.length ≤ 4611686018427387904) (ha : a.length ≤ 4611686018427387904) : ∀ d i k, min a.length b.length - i = d → i ≤ min a.length b.length → 3 * d + 2 ≤ k → spec_comparePlaces.l0 k a b (i : Int) = some (cmp (a.drop i) (b.drop i)) := by
 intro d
 induction d with
 | zero =>
  intro i k hd hi hk
  obtain ⟨k, rfl⟩ : ∃ m, k = m + 2 := ⟨k - 2, by omega⟩
  have he : i = min a.length b.length := by omega
  have hj : spec_comparePlaces.j1 (k + 1) a b (i : Int) false = some (cmp (a.drop i) (b.drop i)) := by
   simp only [spec_comparePlaces.j1]
   rw [if_neg (by simp), cmp_end i he]
   repeat' split
   all_goals rfl
  simp only [spec_comparePlaces.l0]
  by_cases h1 : (i : Int) < (a.length : Int)
  ·rw [if_pos h1, decide_eq_false (by omega : ¬ (i : Int) < (b.length : Int))]; exact hj
  ·rw [if_neg h1]; exact hj
 | succ d ih =>
  intro i k hd hi hk
  obtain ⟨k, rfl⟩ : ∃ m, k = m + 3 := ⟨k - 3, by omega⟩
  have ha' : i < a.length := by omega
  have hb' : i < b.length := by omega
  have hn := ih (i + 1) k (by omega) (by omega) (by omega)
  simp only [spec_comparePlaces.l0]
  rw [if_pos (by omega), decide_eq_true (by omega : (i : Int) < (b.length : Int))]
  simp only [spec_comparePlaces.j1]
  rw [if_pos trivial, if_pos (by omega), if_pos (by omega), if_pos (by omega), cmp_next ha' hb']
  simp only [spec_comparePlaces.j2]
  rw [wnext (n := b.length) hb' hb, hn]
  simp only [show (0 : Int) ≤ (i : Int) from by omega, show (i : Int) < (a.length : Int) from by omega, show (i : Int) < (b.length : Int) from by omega, if_true]
  generalize rd_T68 a (i : Int) = x
  generalize rd_T68 b (i : Int) = y
  by_cases e : x.f0 = y.f0 ∧ x.f1 = y.f1
  ·obtain ⟨e0, e1⟩ := e
   simp [e0, e1]
  ·rw [if_neg e]
   have hne : (!(x.f0 == y.f0) || !(x.f1 == y.f1)) = true := by
    rw [Bool.or_eq_true, Bool.not_eq_true', Bool.not_eq_true', beq_eq_false_iff_ne, beq_eq_false_iff_ne]
    by_cases h0 : x.f0 = y.f0
    ·exact Or.inr fun h1 => e ⟨h0, h1⟩
    ·exact Or.inl h0
   rw [hne]
   by_cases l : x.f0 < y.f0 ∨ (x.f0 = y.f0 ∧ x.f1 < y.f1)
   ·rw [if_pos l]
    by_cases l0 : x.f0 < y.f0
    ·simp [l0]
    ·obtain ⟨e0, e1⟩ : x.f0 = y.f0 ∧ x.f1 < y.f1 := by omega
     simp [e0, e1]
   ·rw [if_neg l]
    have l0 : ¬ x.f0 < y.f0 := by omega
    by_cases e0 : x.f0 = y.f0
    ·have l1 : ¬ x.f1 < y.f1 := by omega
     simp [e0, l1]
    ·simp [l0, e0]
theorem spec_cmp_at (a b : List S68) (ha : a.length ≤ 4611686018427387904) (hb : b.length ≤ 4611686018427387904) (k : Nat) (hk : 3 * min a.length b.length + 2 ≤ k) : spec_comparePlaces.f k a b = some (cmp a b) := by
 have := spec_cmp_l a b hb ha _ 0 k rfl (by omega) (by omega)
 unfold spec_comparePlaces.f
 exact this
def vOkS (x : S28) : Bool := vOk x.f0 x.f1 x.f2
def vsOk (l : List S28) : Bool := l.all vOkS
theorem rd_val {l : List S28} {i : Nat} (h : i < l.length) : rd_T28 l (i : Int) = l[i] := getD_at z28 h
theorem spec_vals_at (l : List S28) (hl : l.length ≤ 4611686018427387904) (m : Nat) (hm : ∀ x ∈ l, x.f2.size < m) (hm' : m ≤ 4611686018427387904) (k : Nat) (hk : l.length + m < k) : spec_validValues.f k l = some (vsOk l) := by
 unfold spec_validValues.f
 rw [all_loop l (fun k i => spec_validValues.l0 k l i) vOkS true m 1 (by omega)
  (fun k _ => by simp only [spec_validValues.l0]; rw [if_neg (by omega)])
  (fun k i h hk => by
   have hx := hm _ (List.getElem_mem h)
   simp only [spec_validValues.l0]
   rw [if_pos (by omega), if_pos (by omega), rd_val h, spec_val_at _ _ _ (by omega) k (by omega), bsome, wnext h hl]; rfl) k (by omega)]
 unfold vsOk; simp
theorem impl_vals_at (l : List S28) (hl : l.length ≤ 4611686018427387904) (m : Nat) (hm : ∀ x ∈ l, x.f2.size < m) (hm' : m ≤ 4611686018427387904) (k : Nat) (hk : l.length + m < k) : impl_valsOk.f k l = some (vsOk l) := by
 unfold impl_valsOk.f
 rw [all_loop l (fun k i => impl_valsOk.l0 k l (l.length : Int) i) vOkS true m 1 (by omega)
  (fun k _ => by simp only [impl_valsOk.l0]; rw [if_neg (by omega)])
  (fun k i h hk => by
   have hx := hm _ (List.getElem_mem h)
   simp only [impl_valsOk.l0]
   rw [if_pos (by omega), if_pos (by omega), if_pos (by omega), rd_val h, impl_valOk_at _ _ _ (by omega) k (by omega), bsome, wnext h hl]; rfl) k (by omega)]
 unfold vsOk; simp
def cellOk (x : S41) : Bool := plOk x.f0 && (decide (x.f1.length ≤ 3) && vsOk x.f1)
def cellsOk : Option (List S68) → List S41 → Bool
 | _, [] => true
 | p, c :: cs => (cellOk c && (match p with | none => true | some q => decide (cmp q c.f0 < 0))) && cellsOk (some c.f0) cs
theorem cellsOk_cons (p : Option (List S68)) (c : S41) (cs : List S41) : cellsOk p (c :: cs) = ((cellOk c && (match p with | none => true | some q => decide (cmp q c.f0 < 0))) && cellsOk (some c.f0) cs) := by cases p <;> rfl
def storeOk (l : List S41) : Bool := cellsOk none l && decide (l.length ≤ 200)
theorem rd_cell {l : List S41} {i : Nat} (h : i < l.length) : rd_T41 l (i : Int) = l[i] := getD_at z41 h
def CB (M : Nat) (c : S41) : Prop := c.f0.length ≤ M ∧ c.f1.length ≤ M ∧ ∀ v ∈ c.f1, v.f2.size ≤ M
theorem wprev {i : Nat} (h : 0 < i) (hi : i ≤ 4611686018427387904) : wrap64 ((i : Int) - 1) = ((i - 1 : Nat) : Int) := by
 rw [w64 (by omega) (by omega)]; omega
theorem spec_store_at (l : List S41) (hl : l.length ≤ 4611686018427387904) (M : Nat) (hM : M ≤ 1073741824) (hc : ∀ c ∈ l, CB M c) (k : Nat) (hk : l.length + (3 * M + 10) < k) : spec_validStore.f k l = some (storeOk l) := by
 have key := loop_s (n := l.length) (m := 3 * M + 10) (s := 1) (by omega) (fun k i => ∀ p, (i = 0 → p = none) → (∀ (h : 0 < i) (h' : i - 1 < l.length), p = some l[i - 1].f0) → spec_validStore.l0 k l (i : Int) = some (cellsOk p (l.drop i)))
  (fun k _ p _ _ => by simp only [spec_validStore.l0]; rw [if_neg (by omega), List.drop_length]; rfl)
  (fun k i h hk ih p h0 h1 => by
   obtain ⟨c0, c1, c2⟩ := hc _ (List.getElem_mem h)
   have ih' := ih (some l[i].f0) (by omega) (fun _ _ => by simp)
   simp only [spec_validStore.l0]
   rw [if_pos (by omega), if_pos (by omega), rd_cell h, drop_cons h, wnext h hl, ih']
   rw [spec_place_at _ (by omega) k (by omega), bsome, spec_vals_at l[i].f1 (by omega) (M + 1) (fun v hv => by have := c2 v hv; omega) (by omega) k (by omega), bsome]
   rw [cellsOk_cons]
   generalize hR : cellsOk (some l[i].f0) (l.drop (i + 1)) = R
   unfold cellOk
   cases hp : plOk l[i].f0
   ·simp
   by_cases hlen : l[i].f1.length ≤ 3
   ·rw [if_pos rfl, if_neg (by omega)]
    cases hv : vsOk l[i].f1
    ·simp
    rw [if_pos rfl]
    by_cases hi : i = 0
    ·subst hi
     rw [if_neg (by omega), h0 rfl]; simp [hlen]
    ·rw [if_pos (by omega), wprev (by omega) (by omega), if_pos (by omega), if_pos (by omega), rd_cell (by omega), h1 (by omega) (by omega)]
     have hlt : i - 1 < l.length := by omega
     obtain ⟨d0, d1, d2⟩ := hc _ (List.getElem_mem hlt)
     rw [spec_cmp_at _ _ (by omega) (by omega) k (by omega), bsome]
     by_cases hcm : cmp l[i - 1].f0 l[i].f0 < 0
     ·rw [if_neg (by omega)]; simp [hlen, hcm]
     ·rw [if_pos (by omega)]; simp [hcm]
   ·rw [if_pos rfl, if_pos (by omega)]; simp [hlen]) l.length 0 k (by omega) (by omega) (by omega) none (fun _ => rfl) (fun h _ => by omega)
 unfold spec_validStore.f storeOk
 by_cases h : (l.length : Int) > 200
 ·rw [if_pos h, show decide (l.length ≤ 200) = false from decide_eq_false (by omega), Bool.and_false]
 ·rw [if_neg h, show decide (l.length ≤ 200) = true from decide_eq_true (by omega), Bool.and_true]; exact key
theorem impl_store_at (l : List S41) (hl : l.length ≤ 4611686018427387904) (M : Nat) (hM : M ≤ 1073741824) (hc : ∀ c ∈ l, CB M c) (k : Nat) (hk : l.length + (3 * M + 10) < k) : impl_StoreOk.f k l = some (storeOk l) := by
 have key := loop_s (n := l.length) (m := 3 * M + 10) (s := 1) (by omega) (fun k i => ∀ p, (i = 0 → p = none) → (∀ (h : 0 < i) (h' : i - 1 < l.length), p = some l[i - 1].f0) → impl_StoreOk.l0 k l l (l.length : Int) (i : Int) = some (cellsOk p (l.drop i) && decide (l.length ≤ 200)))
  (fun k _ p _ _ => by
   simp only [impl_StoreOk.l0]; rw [if_neg (by omega), List.drop_length]
   unfold cellsOk; rw [Bool.true_and]; congr 1; exact decide_eq_decide.mpr (by omega))
  (fun k i h hk ih p h0 h1 => by
   obtain ⟨c0, c1, c2⟩ := hc _ (List.getElem_mem h)
   have ih' := ih (some l[i].f0) (by omega) (fun _ _ => by simp)
   simp only [impl_StoreOk.l0]
   rw [if_pos (by omega), if_pos (by omega), if_pos (by omega), rd_cell h, drop_cons h, wnext h hl, ih']
   rw [impl_place_at _ (by omega) k (by omega), bsome, impl_vals_at l[i].f1 (by omega) (M + 1) (fun v hv => by have := c2 v hv; omega) (by omega) k (by omega), bsome]
   rw [cellsOk_cons]
   generalize hR : cellsOk (some l[i].f0) (l.drop (i + 1)) = R
   unfold cellOk
   cases hp : plOk l[i].f0
   ·simp
   by_cases hlen : l[i].f1.length ≤ 3
   ·rw [if_pos rfl, if_neg (by omega)]
    cases hv : vsOk l[i].f1
    ·simp
    rw [if_pos rfl]
    by_cases hi : i = 0
    ·subst hi
     rw [if_neg (by omega), h0 rfl]; simp [hlen]
    ·rw [if_pos (by omega), wprev (by omega) (by omega), if_pos (by omega), if_pos (by omega), rd_cell (by omega), h1 (by omega) (by omega)]
     have hlt : i - 1 < l.length := by omega
     obtain ⟨d0, d1, d2⟩ := hc _ (List.getElem_mem hlt)
     rw [impl_cmp_at _ _ (by omega) k (by omega), bsome]
     by_cases hcm : cmp l[i - 1].f0 l[i].f0 < 0
     ·rw [if_neg (by omega)]; simp [hlen, hcm]
     ·rw [if_pos (by omega)]; simp [hcm]
   ·rw [if_pos rfl, if_pos (by omega)]; simp [hlen]) l.length 0 k (by omega) (by omega) (by omega) none (fun _ => rfl) (fun h _ => by omega)
 unfold impl_StoreOk.f storeOk
 exact key
theorem cmp_lt_trans {a b c : List S68} (h1 : cmp a b < 0) (h2 : cmp b c < 0) : cmp a c < 0 := by
 induction a generalizing b c with
 | nil => cases c with
  | nil => cases b <;> simp [cmp] at h2
  | cons z zs => simp [cmp]
 | cons x xs ih => cases b with
  | nil => simp [cmp] at h1
  | cons y ys => cases c with
   | nil => simp [cmp] at h2
   | cons z zs =>
    unfold cmp at h1 h2 ⊢
    by_cases e1 : x.f0 = y.f0 ∧ x.f1 = y.f1
    ·rw [if_pos e1] at h1
     by_cases e2 : y.f0 = z.f0 ∧ y.f1 = z.f1
     ·rw [if_pos e2] at h2
      rw [if_pos (by omega)]; exact ih h1 h2
     ·rw [if_neg e2] at h2
      by_cases l2 : y.f0 < z.f0 ∨ (y.f0 = z.f0 ∧ y.f1 < z.f1)
      ·rw [if_neg (by omega), if_pos (by omega)]; decide
      ·rw [if_neg l2] at h2; omega
    ·rw [if_neg e1] at h1
     by_cases l1 : x.f0 < y.f0 ∨ (x.f0 = y.f0 ∧ x.f1 < y.f1)
     ·by_cases e2 : y.f0 = z.f0 ∧ y.f1 = z.f1
      ·rw [if_neg (by omega), if_pos (by omega)]; decide
      ·rw [if_neg e2] at h2
       by_cases l2 : y.f0 < z.f0 ∨ (y.f0 = z.f0 ∧ y.f1 < z.f1)
       ·rw [if_neg (by omega), if_pos (by omega)]; decide
       ·rw [if_neg l2] at h2; omega
     ·rw [if_neg l1] at h1; omega
theorem cellsOk_after {q : List S68} {l : List S41} (h : cellsOk (some q) l = true) : ∀ c ∈ l, cmp q c.f0 < 0 := by
 induction l generalizing q with
 | nil => intro c hc; cases hc
 | cons d ds ih =>
  intro c hc
  rw [cellsOk_cons] at h
  simp only [Bool.and_eq_true, decide_eq_true_eq] at h
  rcases List.mem_cons.1 hc with rfl | hc
  ·exact h.1.2
  ·exact cmp_lt_trans h.1.2 (ih h.2 c hc)
def stand (w : List S68) : List S41 → Nat → Option Nat
 | [], _ => none
 | c :: cs, i => if cmp c.f0 w = 0 then some i else stand w cs (i + 1)
def lowAt (w : List S68) : List S41 → Nat → Nat × Bool
 | [], i => (i, false)
 | c :: cs, i => if cmp c.f0 w < 0 then lowAt w cs (i + 1) else (i, cmp c.f0 w == 0)
theorem stand_none {w : List S68} {l : List S41} (i : Nat) (h : ∀ c ∈ l, cmp c.f0 w ≠ 0) : stand w l i = none := by
 induction l generalizing i with
 | nil => rfl
 | cons c cs ih => unfold stand; rw [if_neg (h c (by simp))]; exact ih (i + 1) (fun d hd => h d (by simp [hd]))
theorem stand_cons (w : List S68) (c : S41) (cs : List S41) (i : Nat) : stand w (c :: cs) i = if cmp c.f0 w = 0 then some i else stand w cs (i + 1) := rfl
theorem lowAt_cons (w : List S68) (c : S41) (cs : List S41) (i : Nat) : lowAt w (c :: cs) i = if cmp c.f0 w < 0 then lowAt w cs (i + 1) else (i, cmp c.f0 w == 0) := rfl
theorem stand_low {w : List S68} {l : List S41} {p : Option (List S68)} (h : cellsOk p l = true) (i : Nat) : stand w l i = if (lowAt w l i).2 = true then some (lowAt w l i).1 else none := by
 induction l generalizing i p with
 | nil => rfl
 | cons c cs ih =>
  rw [cellsOk_cons, Bool.and_eq_true] at h
  rcases cmp_three c.f0 w with e | e | e
  ·have l1 : lowAt w (c :: cs) i = lowAt w cs (i + 1) := by rw [lowAt_cons, if_pos (show cmp c.f0 w < 0 by omega)]
   have l2 : stand w (c :: cs) i = stand w cs (i + 1) := by rw [stand_cons, if_neg (show ¬ cmp c.f0 w = 0 by omega)]
   rw [l1, l2]; exact ih h.2 (i + 1)
  ·have l1 : lowAt w (c :: cs) i = (i, true) := by rw [lowAt_cons, if_neg (show ¬ cmp c.f0 w < 0 by omega), e]; rfl
   have l2 : stand w (c :: cs) i = some i := by rw [stand_cons, if_pos e]
   rw [l1, l2]; rfl
  ·have l1 : lowAt w (c :: cs) i = (i, false) := by rw [lowAt_cons, if_neg (show ¬ cmp c.f0 w < 0 by omega), e]; rfl
   have l2 : stand w (c :: cs) i = stand w cs (i + 1) := by rw [stand_cons, if_neg (show ¬ cmp c.f0 w = 0 by omega)]
   rw [l1, l2, stand_none]
   ·rfl
   intro d hd he
   have h1 := cellsOk_after h.2 d hd
   rw [cmp_zero he] at h1; omega
theorem lowAt_in (w : List S68) (l : List S41) (i : Nat) : i ≤ (lowAt w l i).1 ∧ (lowAt w l i).1 ≤ i + l.length ∧ ((lowAt w l i).2 = true → (lowAt w l i).1 < i + l.length) := by
 induction l generalizing i with
 | nil => exact ⟨Nat.le_refl i, Nat.le_refl i, fun h => by cases h⟩
 | cons c cs ih =>
  unfold lowAt
  split
  ·have := ih (i + 1); rw [List.length_cons]; exact ⟨by omega, by omega, fun h => by have := this.2.2 h; omega⟩
  ·rw [List.length_cons]; exact ⟨by simp, by simp, fun _ => by simp⟩
theorem spec_cellAt_at (l : List S41) (w : List S68) (hl : l.length ≤ 1048576) (hb : ∀ c ∈ l, CB 1048576 c) (hw : w.length ≤ 2097152) (k : Nat) (hk : 8388608 < k) : spec_cellAt.f k l w = some (((lowAt w l 0).1 : Int), (lowAt w l 0).2) := by
 have := loop_s (n := l.length) (m := 6291500) (s := 1) (by omega) (fun k i => spec_cellAt.l0 k l w (i : Int) = some (((lowAt w (l.drop i) i).1 : Int), (lowAt w (l.drop i) i).2))
  (fun k _ => by simp only [spec_cellAt.l0]; rw [if_neg (by omega), List.drop_length]; rfl)
  (fun k i h hk ih => by
   obtain ⟨c0, c1, c2⟩ := hb _ (List.getElem_mem h)
   simp only [spec_cellAt.l0]
   rw [if_pos (by omega), if_pos (by omega), rd_cell h, wnext h (by omega), drop_cons h, ih, spec_cmp_at _ _ (by omega) (by omega) k (by omega), bsome, bsome]
   conv => rhs; unfold lowAt
   by_cases e : cmp l[i].f0 w < 0
   ·rw [if_pos e, if_pos e]
   ·rw [if_neg e, if_neg e]) l.length 0 k (by omega) (by omega) (by omega)
 unfold spec_cellAt.f
 exact this
theorem cellsOk_mem {p : Option (List S68)} {l : List S41} (h : cellsOk p l = true) : ∀ c ∈ l, cellOk c = true := by
 induction l generalizing p with
 | nil => intro c hc; cases hc
 | cons d ds ih =>
  intro c hc
  rw [cellsOk_cons, Bool.and_eq_true, Bool.and_eq_true] at h
  rcases List.mem_cons.1 hc with rfl | hc
  ·exact h.1.1
  ·exact ih h.2 c hc
theorem cellsOk_iff (p : Option (List S68)) (l : List S41) : cellsOk p l = true ↔ (∀ c ∈ l, cellOk c = true) ∧ l.Pairwise (fun a b => cmp a.f0 b.f0 < 0) ∧ (∀ q, p = some q → ∀ c ∈ l, cmp q c.f0 < 0) := by
 constructor
 ·intro h
  refine ⟨cellsOk_mem h, ?_, fun q hq => by subst hq; exact cellsOk_after h⟩
  induction l generalizing p with
  | nil => exact List.Pairwise.nil
  | cons c cs ih =>
   rw [cellsOk_cons, Bool.and_eq_true] at h
   exact List.Pairwise.cons (cellsOk_after h.2) (ih _ h.2)
 ·induction l generalizing p with
  | nil => intro _; rfl
  | cons c cs ih =>
   rintro ⟨h1, h2, h3⟩
   obtain ⟨h4, h5⟩ := List.pairwise_cons.1 h2
   rw [cellsOk_cons, h1 c (by simp), ih (some c.f0) ⟨fun d hd => h1 d (by simp [hd]), h5, fun q hq => by cases hq; exact h4⟩]
   cases p with
   | none => rfl
   | some q => simp [h3 q rfl c (by simp)]
theorem storeOk_iff (l : List S41) : storeOk l = true ↔ (∀ c ∈ l, cellOk c = true) ∧ l.Pairwise (fun a b => cmp a.f0 b.f0 < 0) ∧ l.length ≤ 200 := by
 unfold storeOk
 rw [Bool.and_eq_true, cellsOk_iff, decide_eq_true_eq]
 exact ⟨fun h => ⟨h.1.1, h.1.2.1, h.2⟩, fun h => ⟨⟨h.1, h.2.1, fun q hq => by cases hq⟩, h.2.2⟩⟩
def isAt (w : List S68) (c : S41) : Bool := cmp c.f0 w == 0
theorem isAt_iff {w : List S68} {c : S41} : isAt w c = true ↔ cmp c.f0 w = 0 := by unfold isAt; exact beq_iff_eq
theorem stand_find (w : List S68) (l : List S41) (i : Nat) : (stand w l i = none ∧ l.find? (isAt w) = none) ∨ (∃ j, ∃ h : j < l.length, stand w l i = some (i + j) ∧ l.find? (isAt w) = some l[j]) := by
 induction l generalizing i with
 | nil => exact .inl ⟨rfl, rfl⟩
 | cons c cs ih =>
  unfold stand
  by_cases h : cmp c.f0 w = 0
  ·rw [if_pos h]; exact .inr ⟨0, by simp, by simp, by simp [isAt, h]⟩
  ·rw [if_neg h]
   have hn : isAt w c = false := by unfold isAt; exact beq_eq_false_iff_ne.mpr h
   rcases ih (i + 1) with ⟨h1, h2⟩ | ⟨j, hj, h1, h2⟩
   ·exact .inl ⟨h1, by rw [List.find?_cons, hn]; exact h2⟩
   ·exact .inr ⟨j + 1, by simp; omega, by rw [h1]; congr 1; omega, by rw [List.find?_cons, hn]; simpa using h2⟩
def setS (w : List S68) (v : List S28) : List S41 → List S41
 | [] => [⟨w, v⟩]
 | c :: cs => if cmp w c.f0 = 0 then ⟨w, v⟩ :: cs else if cmp w c.f0 < 0 then ⟨w, v⟩ :: c :: cs else c :: setS w v cs
theorem setS_cons (w : List S68) (v : List S28) (c : S41) (cs : List S41) : setS w v (c :: cs) = if cmp w c.f0 = 0 then ⟨w, v⟩ :: cs else if cmp w c.f0 < 0 then ⟨w, v⟩ :: c :: cs else c :: setS w v cs := rfl
theorem setS_low (w : List S68) (v : List S28) (l : List S41) (i : Nat) : l.take ((lowAt w l i).1 - i) ++ ((⟨w, v⟩ : S41) :: l.drop ((if (lowAt w l i).2 = true then (lowAt w l i).1 + 1 else (lowAt w l i).1) - i)) = setS w v l := by
 induction l generalizing i with
 | nil => simp [lowAt, setS]
 | cons c cs ih =>
  have hn := cmp_neg c.f0 w
  by_cases h : cmp c.f0 w < 0
  ·have e : lowAt w (c :: cs) i = lowAt w cs (i + 1) := by rw [lowAt_cons, if_pos h]
   have e0 : setS w v (c :: cs) = c :: setS w v cs := by rw [setS_cons, if_neg (show ¬ cmp w c.f0 = 0 by omega), if_neg (show ¬ cmp w c.f0 < 0 by omega)]
   rw [e, e0, ← ih (i + 1)]
   obtain ⟨h2, -, -⟩ := lowAt_in w cs (i + 1)
   generalize lowAt w cs (i + 1) = p at *
   obtain ⟨a, b⟩ := p
   simp only at h2 ⊢
   rw [show a - i = (a - (i + 1)) + 1 by omega, List.take_succ_cons]
   cases b
   ·rw [if_neg (show ¬ (false = true) by decide), show a - i = (a - (i + 1)) + 1 by omega, List.drop_succ_cons, List.cons_append]
   ·rw [if_pos (show true = true from rfl), show a + 1 - i = (a + 1 - (i + 1)) + 1 by omega, List.drop_succ_cons, List.cons_append]
  ·by_cases h0 : cmp c.f0 w = 0
   ·have e : lowAt w (c :: cs) i = (i, true) := by rw [lowAt_cons, if_neg h, h0]; rfl
    have e0 : setS w v (c :: cs) = ⟨w, v⟩ :: cs := by rw [setS_cons, if_pos (show cmp w c.f0 = 0 by omega)]
    rw [e, e0]; simp
   ·have e : lowAt w (c :: cs) i = (i, false) := by rw [lowAt_cons, if_neg h, beq_eq_false_iff_ne.mpr h0]
    have e0 : setS w v (c :: cs) = ⟨w, v⟩ :: c :: cs := by rw [setS_cons, if_neg (show ¬ cmp w c.f0 = 0 by omega), if_pos (show cmp w c.f0 < 0 by omega)]
    rw [e, e0]; simp
theorem setS_mem {w : List S68} {v : List S28} {l : List S41} {c : S41} (h : c ∈ setS w v l) : c = ⟨w, v⟩ ∨ c ∈ l := by
 induction l with
 | nil => simpa [setS] using h
 | cons d ds ih =>
  unfold setS at h
  split at h
  ·rcases List.mem_cons.1 h with h | h
   ·exact .inl h
   ·exact .inr (by simp [h])
  ·split at h
   ·rcases List.mem_cons.1 h with h | h
    ·exact .inl h
    ·exact .inr h
   ·rcases List.mem_cons.1 h with h | h
    ·exact .inr (by simp [h])
    ·rcases ih h with h | h
     ·exact .inl h
     ·exact .inr (by simp [h])
theorem setS_length (w : List S68) (v : List S28) (l : List S41) : (setS w v l).length ≤ l.length + 1 := by
 induction l with
 | nil => simp [setS]
 | cons d ds ih =>
  rw [setS_cons]
  split
  ·simp
  ·split
   ·simp
   ·simp; omega
theorem setS_sorted {w : List S68} {v : List S28} {l : List S41} (h : l.Pairwise (fun a b => cmp a.f0 b.f0 < 0)) : (setS w v l).Pairwise (fun a b => cmp a.f0 b.f0 < 0) := by
 induction l with
 | nil => unfold setS; exact List.pairwise_singleton _ _
 | cons d ds ih =>
  obtain ⟨h1, h2⟩ := List.pairwise_cons.1 h
  have hn := cmp_neg d.f0 w
  unfold setS
  by_cases e : cmp w d.f0 = 0
  ·rw [if_pos e]
   refine List.Pairwise.cons (fun c hc => ?_) h2
   have := h1 c hc; rw [← cmp_zero e] at this; exact this
  ·rw [if_neg e]
   by_cases e2 : cmp w d.f0 < 0
   ·rw [if_pos e2]
    refine List.Pairwise.cons (fun c hc => ?_) h
    rcases List.mem_cons.1 hc with rfl | hc
    ·exact e2
    ·exact cmp_lt_trans e2 (h1 c hc)
   ·rw [if_neg e2]
    refine List.Pairwise.cons (fun c hc => ?_) (ih h2)
    rcases setS_mem hc with rfl | hc
    ·show cmp d.f0 w < 0
     rcases cmp_three w d.f0 with q | q | q <;> omega
    ·exact h1 c hc
theorem find_setS (w : List S68) (v : List S28) (l : List S41) : (setS w v l).find? (isAt w) = some ⟨w, v⟩ := by
 have hw : isAt w ⟨w, v⟩ = true := isAt_iff.mpr (cmp_refl w)
 induction l with
 | nil => simp [setS, hw]
 | cons d ds ih =>
  have hn := cmp_neg d.f0 w
  unfold setS
  by_cases e : cmp w d.f0 = 0
  ·rw [if_pos e, List.find?_cons, hw]
  ·rw [if_neg e]
   by_cases e2 : cmp w d.f0 < 0
   ·rw [if_pos e2, List.find?_cons, hw]
   ·rw [if_neg e2, List.find?_cons, show isAt w d = false from by unfold isAt; exact beq_eq_false_iff_ne.mpr (by omega)]; exact ih
theorem find_self {l : List S41} (h : l.Pairwise (fun a b => cmp a.f0 b.f0 < 0)) {c : S41} (hc : c ∈ l) : l.find? (isAt c.f0) = some c := by
 induction l with
 | nil => cases hc
 | cons d ds ih =>
  obtain ⟨h1, h2⟩ := List.pairwise_cons.1 h
  rw [List.find?_cons]
  rcases List.mem_cons.1 hc with rfl | hc
  ·rw [show isAt c.f0 c = true from isAt_iff.mpr (cmp_refl _)]
  ·rw [show isAt c.f0 d = false from by unfold isAt; exact beq_eq_false_iff_ne.mpr (by have := h1 c hc; omega)]; exact ih h2 hc
def notAt (w : List S68) (c : S41) : Bool := !(isAt w c)
theorem filter_setS (w : List S68) (v : List S28) (l : List S41) : (setS w v l).filter (notAt w) = l.filter (notAt w) := by
 have hw : notAt w ⟨w, v⟩ = false := by unfold notAt; rw [isAt_iff.mpr (cmp_refl w)]; rfl
 induction l with
 | nil => simp [setS, hw]
 | cons d ds ih =>
  have hn := cmp_neg d.f0 w
  unfold setS
  by_cases e : cmp w d.f0 = 0
  ·rw [if_pos e, List.filter_cons, hw, List.filter_cons, show notAt w d = false from by unfold notAt; rw [isAt_iff.mpr (by omega)]; rfl]; rfl
  ·rw [if_neg e]
   by_cases e2 : cmp w d.f0 < 0
   ·rw [if_pos e2, List.filter_cons, hw]; rfl
   ·rw [if_neg e2, List.filter_cons, List.filter_cons, ih]
theorem setS_same {l : List S41} (h : l.Pairwise (fun a b => cmp a.f0 b.f0 < 0)) {w : List S68} {c : S41} (hc : l.find? (isAt w) = some c) : setS w c.f1 l = l := by
 induction l with
 | nil => cases hc
 | cons d ds ih =>
  obtain ⟨h1, h2⟩ := List.pairwise_cons.1 h
  have hn := cmp_neg d.f0 w
  rw [List.find?_cons] at hc
  unfold setS
  by_cases e : cmp d.f0 w = 0
  ·rw [isAt_iff.mpr e] at hc
   cases hc
   rw [if_pos (by omega), ← cmp_zero e]
  ·rw [show isAt w d = false from by unfold isAt; exact beq_eq_false_iff_ne.mpr e] at hc
   have hm : c ∈ ds := List.mem_of_find?_eq_some hc
   have he : cmp c.f0 w = 0 := isAt_iff.1 (List.find?_some hc)
   have := h1 c hm
   rw [cmp_zero he] at this
   rw [if_neg (by omega), if_neg (by omega), ih h2 hc]
theorem find_mem {l : List S41} {w : List S68} {c : S41} (hc : l.find? (isAt w) = some c) : c ∈ l ∧ c.f0 = w := ⟨List.mem_of_find?_eq_some hc, cmp_zero (isAt_iff.1 (List.find?_some hc))⟩
theorem cellOk_new {w : List S68} {v : List S28} (h1 : plOk w = true) (h2 : v.length ≤ 3) (h3 : vsOk v = true) : cellOk ⟨w, v⟩ = true := by
 unfold cellOk; simp [h1, h2, h3]
theorem storeOk_set {w : List S68} {v : List S28} {l : List S41} (h : storeOk l = true) (h1 : plOk w = true) (h2 : v.length ≤ 3) (h3 : vsOk v = true) (h4 : (setS w v l).length ≤ 200) : storeOk (setS w v l) = true := by
 rw [storeOk_iff] at h ⊢
 refine ⟨fun c hc => ?_, setS_sorted h.2.1, h4⟩
 rcases setS_mem hc with rfl | hc
 ·exact cellOk_new h1 h2 h3
 ·exact h.1 c hc
def Src (l : List Int) (a f : Int) : Prop := (∀ x ∈ l, 0 ≤ x ∧ x ≤ 255) ∧ 0 ≤ a ∧ 0 ≤ f ∧ a + 2 * f ≤ 8000
theorem rd_in {l : List Int} {i : Int} (h0 : 0 ≤ i) (h1 : i < (l.length : Int)) : rd l i ∈ l := by
 have h : i.toNat < l.length := by omega
 unfold rd
 rw [List.getD_eq_getElem?_getD, List.getElem?_eq_getElem h]
 exact List.getElem_mem h
theorem pick_tells {l : List Int} {a f : Int} (n : Int) (h : Src l a f) (k : Nat) (hk : 0 < k) :
  ∃ v a' f', spec_source_pick.f k l a f n = some (v, a', f') ∧ 0 ≤ v ∧ (v < n ∨ v = 0) ∧ Src l a' f' := by
 obtain ⟨hb, ha, hf, haf⟩ := h
 obtain ⟨k, rfl⟩ : ∃ m, k = m + 1 := ⟨k - 1, by omega⟩
 have stop : ∃ v a' f', spec_source_pick.j0 (k + 1) n true l a f = some (v, a', f') ∧ 0 ≤ v ∧ (v < n ∨ v = 0) ∧ Src l a' f' :=
  ⟨0, a, f, by simp [spec_source_pick.j0], by omega, Or.inr rfl, hb, ha, hf, haf⟩
 unfold spec_source_pick.f
 by_cases h1 : n ≤ 1
 ·rw [if_pos h1]; exact stop
 rw [if_neg h1]
 by_cases h2 : f ≤ 0
 ·rw [if_pos h2]; exact stop
 rw [if_neg h2]
 by_cases h3 : (l.length : Int) = 0
 ·rw [show ((l.length : Int) == 0) = true from beq_iff_eq.mpr h3]; exact stop
 rw [show ((l.length : Int) == 0) = false from beq_eq_false_iff_ne.mpr h3]
 have hl : 0 < (l.length : Int) := by omega
 have m0 : 0 ≤ Int.tmod a (l.length : Int) := Int.tmod_nonneg _ ha
 have m1 : Int.tmod a (l.length : Int) < (l.length : Int) := Int.tmod_lt_of_pos _ hl
 have q0 : 0 ≤ Int.tdiv a (l.length : Int) := Int.tdiv_nonneg ha (by omega)
 have q1 : Int.tdiv a (l.length : Int) ≤ 8000 := by
  rw [Int.tdiv_eq_ediv_of_nonneg ha]
  have := Int.ediv_le_self (l.length : Int) ha
  omega
 have v0 := hb _ (rd_in m0 m1)
 simp only [spec_source_pick.j0]
 rw [if_neg (by simp), if_neg h3, if_pos m0, if_pos m1]
 generalize Int.tdiv a (l.length : Int) = q at *
 generalize rd l (Int.tmod a (l.length : Int)) = x at *
 rw [w64 (n := a + 1) (by omega) (by omega), w64 (n := f - 1) (by omega) (by omega), w64 (n := x) (by omega) (by omega),
  w64 (n := q) (by omega) (by omega), w64 (n := q * 31) (by omega) (by omega), w64 (n := x + q * 31) (by omega) (by omega)]
 by_cases h4 : n > 256
 ·have m0' : 0 ≤ Int.tmod (a + 1) (l.length : Int) := Int.tmod_nonneg _ (by omega)
  have m1' : Int.tmod (a + 1) (l.length : Int) < (l.length : Int) := Int.tmod_lt_of_pos _ hl
  have v1 := hb _ (rd_in m0' m1')
  generalize rd l (Int.tmod (a + 1) (l.length : Int)) = y at *
  rw [if_pos h4, if_pos m0', if_pos m1', if_neg (by omega), w64 (n := y) (by omega) (by omega),
   w64 (n := (x + q * 31) * 256) (by omega) (by omega), w64 (n := (x + q * 31) * 256 + y) (by omega) (by omega),
   w64 (n := a + 1 + 1) (by omega) (by omega)]
  exact ⟨_, _, _, rfl, Int.tmod_nonneg _ (by omega), Or.inl (Int.tmod_lt_of_pos _ (by omega)), hb, by omega, by omega, by omega⟩
 ·rw [if_neg h4, if_neg (by omega)]
  exact ⟨_, _, _, rfl, Int.tmod_nonneg _ (by omega), Or.inl (Int.tmod_lt_of_pos _ (by omega)), hb, by omega, by omega, by omega⟩
theorem src_new {l : List Int} (h : ∀ x ∈ l, (Lit.int .u8 x).wf = true) : Src l 0 4000 := by
 refine ⟨fun x hx => ?_, by omega, by omega, by omega⟩
 have := h x hx
 simp only [Lit.wf, IntKind.min, IntKind.max, IntKind.signed, IntKind.bits, Bool.and_eq_true, decide_eq_true_eq] at this
 simp at this
 omega
theorem one_tells {l : List Int} {a f : Int} (l1 : List Int) (hl : l1 ≠ []) (h : Src l a f) (k : Nat) (hk : 0 < k) :
  ∃ v a' f', spec_source_one.f k l a f l1 = some (v, a', f') ∧ v ∈ l1 ∧ Src l a' f' := by
 obtain ⟨v, a', f', he, h0, h1, hs⟩ := pick_tells (l1.length : Int) h k hk
 have hp : 0 < (l1.length : Int) := by
  have := List.length_pos_iff.mpr hl
  omega
 have hv : v < (l1.length : Int) := by omega
 refine ⟨rd l1 v, a', f', ?_, rd_in h0 hv, hs⟩
 unfold spec_source_one.f
 rw [he]; simp only [Option.bind_some]
 rw [if_pos h0, if_pos hv]
theorem rarely_tells {l : List Int} {a f : Int} (h : Src l a f) (k : Nat) (hk : 0 < k) : ∃ v a' f', spec_source_rarely.f k l a f = some (v, a', f') ∧ Src l a' f' := by
 obtain ⟨v, a', f', he, -, -, hs⟩ := pick_tells 40 h k hk
 refine ⟨(v == 1), a', f', ?_, hs⟩
 unfold spec_source_rarely.f
 rw [he, bsome]
theorem slots_l {l : List Int} : ∀ (n k : Nat) (acc : List S68) (a f : Int), Src l a f → n + 1 < k → acc.length + n ≤ 1000 → ∃ r a' f', spec_source_slots.l0 k acc (n : Int) l a f = some (r, a', f') ∧ r.length ≤ acc.length + n + 1 ∧ Src l a' f' := by
 intro n
 induction n with
 | zero =>
  intro k acc a f h hk hn
  obtain ⟨k, rfl⟩ : ∃ m, k = m + 1 := ⟨k - 1, by omega⟩
  simp only [spec_source_slots.l0]
  rw [if_neg (by omega)]
  obtain ⟨v, a1, f1, e1, s1⟩ := rarely_tells h k (by omega)
  rw [e1]; simp only [Option.bind_some]
  cases v with
  | true =>
   obtain ⟨u, a2, f2, e2, -, s2⟩ := one_tells [-1, 4] (by simp) s1 k (by omega)
   rw [if_pos rfl, e2]; simp only [Option.bind_some]
   rw [if_pos (by omega)]
   exact ⟨_, _, _, rfl, by simp, s2⟩
  | false =>
   rw [if_neg (by simp)]
   exact ⟨_, _, _, rfl, by omega, s1⟩
 | succ n ih =>
  intro k acc a f h hk hn
  obtain ⟨k, rfl⟩ : ∃ m, k = m + 1 := ⟨k - 1, by omega⟩
  simp only [spec_source_slots.l0]
  rw [if_pos (by omega)]
  obtain ⟨u1, a1, f1, e1, -, s1⟩ := one_tells [0, 0, 1, 2, 3] (by simp) h k (by omega)
  rw [e1]; simp only [Option.bind_some]
  obtain ⟨u2, a2, f2, e2, -, s2⟩ := one_tells [0, 0, 1, 3, 4, 9, 103] (by simp) s1 k (by omega)
  rw [e2]; simp only [Option.bind_some]
  rw [if_pos (by omega), w64 (by omega) (by omega), show ((n + 1 : Nat) : Int) - 1 = (n : Int) by omega]
  obtain ⟨r, a', f', er, hr, sr⟩ := ih k (acc ++ [⟨u1, u2⟩]) a2 f2 s2 (by omega) (by simp; omega)
  exact ⟨r, a', f', er, by simp at hr; omega, sr⟩
theorem slots_tells {l : List Int} {a f : Int} (h : Src l a f) (k : Nat) (hk : 30 < k) : ∃ r a' f', spec_source_slots.f k l a f = some (r, a', f') ∧ r.length ≤ 30 ∧ Src l a' f' := by
 unfold spec_source_slots.f
 obtain ⟨v1, a1, f1, e1, p1, q1, s1⟩ := pick_tells 22 h k (by omega)
 rw [e1]; simp only [Option.bind_some]
 obtain ⟨v2, a2, f2, e2, m2, s2⟩ := one_tells [0, 1, 2, 3, v1] (by simp) s1 k (by omega)
 rw [e2]; simp only [Option.bind_some]
 have hv : 0 ≤ v2 ∧ v2 ≤ 21 := by simp at m2; omega
 obtain ⟨r, a3, f3, e3, h3, s3⟩ := slots_l v2.toNat k ([] : List S68) a2 f2 s2 (by omega) (by simp; omega)
 rw [show ((v2.toNat : Nat) : Int) = v2 by omega] at e3
 exact ⟨r, a3, f3, e3, by simp at h3; omega, s3⟩
theorem rdOf_in {α : Type} {d : α} {l : List α} {i : Int} (h0 : 0 ≤ i) (h1 : i < (l.length : Int)) : rdOf d l i ∈ l := by
 have h : i.toNat < l.length := by omega
 unfold rdOf
 rw [List.getD_eq_getElem?_getD, List.getElem?_eq_getElem h]
 exact List.getElem_mem h
theorem size_append (a b : ByteArray) : (a ++ b).size = a.size + b.size := ByteArray.size_append
theorem text_l {l : List Int} : ∀ (n k : Nat) (acc : ByteArray) (a f : Int), Src l a f → n + 1 < k → acc.size + 4 * n ≤ 1000 → ∃ r a' f', spec_source_text.l0 k acc (n : Int) l a f = some (r, a', f') ∧ r.size ≤ acc.size + 4 * n + 1 ∧ Src l a' f' := by
 intro n
 induction n with
 | zero =>
  intro k acc a f h hk hn
  obtain ⟨k, rfl⟩ : ∃ m, k = m + 1 := ⟨k - 1, by omega⟩
  simp only [spec_source_text.l0]
  rw [if_neg (by omega)]
  obtain ⟨v, a1, f1, e1, s1⟩ := rarely_tells h k (by omega)
  rw [e1, bsome]
  cases v with
  | true =>
   rw [if_pos rfl, if_pos (by omega)]
   exact ⟨_, _, _, rfl, by rw [size_append]; exact Nat.le_refl _, s1⟩
  | false =>
   rw [if_neg (by simp)]
   exact ⟨_, _, _, rfl, by omega, s1⟩
 | succ n ih =>
  intro k acc a f h hk hn
  obtain ⟨k, rfl⟩ : ∃ m, k = m + 1 := ⟨k - 1, by omega⟩
  simp only [spec_source_text.l0]
  rw [if_pos (by omega), bsome]
  obtain ⟨u1, a1, f1, e1, p1, q1, s1⟩ := pick_tells 6 h k (by omega)
  rw [e1, bsome]
  generalize hy : ([(⟨#[97]⟩ : ByteArray), (⟨#[98]⟩ : ByteArray), (⟨#[122, 57]⟩ : ByteArray), (⟨#[32]⟩ : ByteArray), (⟨#[48]⟩ : ByteArray), (⟨#[108, 111, 110, 103]⟩ : ByteArray)] : List ByteArray) = y
  have hyl : y.length = 6 := by subst hy; rfl
  have hys : ∀ b ∈ y, b.size ≤ 4 := by
   subst hy
   intro b hb
   simp only [List.mem_cons, List.not_mem_nil, or_false] at hb
   rcases hb with rfl | rfl | rfl | rfl | rfl | rfl <;> decide
  have hu : u1 < (y.length : Int) := by omega
  have hb := hys _ (rdOf_in (d := ByteArray.empty) p1 hu)
  rw [if_pos p1, if_pos hu]
  generalize rdOf ByteArray.empty y u1 = b at *
  rw [if_pos (by omega), w64 (by omega) (by omega), show ((n + 1 : Nat) : Int) - 1 = (n : Int) by omega]
  obtain ⟨r, a', f', er, hr, sr⟩ := ih k (acc ++ b) a1 f1 s1 (by omega) (by rw [size_append]; omega)
  exact ⟨r, a', f', er, by rw [size_append] at hr; omega, sr⟩
theorem text_tells {l : List Int} {a f : Int} (h : Src l a f) (k : Nat) (hk : 10 < k) : ∃ r a' f', spec_source_text.f k l a f = some (r, a', f') ∧ r.size ≤ 20 ∧ Src l a' f' := by
 unfold spec_source_text.f
 obtain ⟨v1, a1, f1, e1, p1, q1, s1⟩ := pick_tells 4 h k (by omega)
 rw [e1, bsome]
 obtain ⟨r, a3, f3, e3, h3, s3⟩ := text_l v1.toNat k (⟨#[]⟩ : ByteArray) a1 f1 s1 (by omega) (by show 0 + 4 * v1.toNat ≤ 1000; omega)
 rw [show ((v1.toNat : Nat) : Int) = v1 by omega] at e3
 refine ⟨r, a3, f3, e3, ?_, s3⟩
 have h0 : (⟨#[]⟩ : ByteArray).size = 0 := rfl
 omega
theorem value_tells {l : List Int} {a f : Int} (h : Src l a f) (k : Nat) (hk : 10 < k) : ∃ x y z a' f', spec_source_value.f k l a f = some (x, y, z, a', f') ∧ z.size ≤ 20 ∧ (-1001 ≤ y ∧ y ≤ 1001) ∧ (0 ≤ x ∧ x ≤ 2) ∧ Src l a' f' := by
 unfold spec_source_value.f
 obtain ⟨v1, a1, f1, e1, p1, q1, s1⟩ := pick_tells 6 h k (by omega)
 rw [e1, bsome]
 have h0 : (⟨#[]⟩ : ByteArray).size ≤ 20 := by decide
 by_cases c0 : v1 = 0
 ·rw [if_pos c0]; exact ⟨_, _, _, _, _, rfl, h0, by omega, by omega, s1⟩
 rw [if_neg c0]
 by_cases c1 : v1 = 1
 ·rw [if_pos c1]
  obtain ⟨r, a2, f2, e2, h2, s2⟩ := text_tells s1 k hk
  rw [e2, bsome]; exact ⟨_, _, _, _, _, rfl, h2, by omega, by omega, s2⟩
 rw [if_neg c1]
 by_cases c2 : v1 = 2
 ·rw [if_pos c2]
  obtain ⟨v2, a2, f2, e2, m2, s2⟩ := one_tells [0, 1, -1, 1000, -1000, 500, 1001] (by simp) s1 k (by omega)
  rw [e2, bsome]
  refine ⟨_, _, _, _, _, rfl, h0, ?_, by omega, s2⟩
  simp at m2; omega
 rw [if_neg c2]
 obtain ⟨v2, a2, f2, e2, p2, q2, s2⟩ := pick_tells 6 s1 k (by omega)
 rw [e2, bsome]
 refine ⟨_, _, _, _, _, rfl, h0, ?_, by omega, s2⟩
 rw [w64 (by omega) (by omega)]; omega
theorem good_tells {l : List Int} {a f : Int} (h : Src l a f) (k : Nat) (hk : 30 < k) : ∃ x y z a' f', spec_source_good.f k l a f = some (x, y, z, a', f') ∧ z.size ≤ 20 ∧ (-1001 ≤ y ∧ y ≤ 1001) ∧ (0 ≤ x ∧ x ≤ 2) ∧ Src l a' f' := by
 unfold spec_source_good.f
 obtain ⟨x, y, z, a1, f1, e1, h1, h2, h3, s1⟩ := value_tells h k (by omega)
 rw [e1, bsome, spec_val_at x y z (by omega) k (by omega), bsome]
 have h0 : (⟨#[]⟩ : ByteArray).size ≤ 20 := by decide
 split
 ·exact ⟨_, _, _, _, _, rfl, h1, h2, h3, s1⟩
 ·exact ⟨_, _, _, _, _, rfl, h0, by omega, by omega, s1⟩
theorem nil_app {α : Type} (l : List α) : ([] : List α) ++ l = l := rfl
theorem spec_copyCell_at (a : List S68) (b : List S28) (ha : a.length ≤ 1048576) (hb : b.length ≤ 1048576) : spec_copyCell.f a b = some (a, b) := by
 unfold spec_copyCell.f
 rw [bsome, if_pos (by simp only [List.length_nil]; omega), bsome, if_pos (by simp only [List.length_nil]; omega)]; rfl
theorem app_loop {α β : Type} (xs : List α) (F : Nat → List β → Int → Option (List β)) (c : α → List β) (m s : Nat) (hs : 0 < s)
  (hend : ∀ k acc, m ≤ k → F (k + 1) acc (xs.length : Int) = some acc)
  (hstep : ∀ k (acc : List β) i (h : i < xs.length), m ≤ k → acc.length ≤ ((xs.take i).map (fun x => (c x).length)).sum → F (k + s) acc (i : Int) = F k (acc ++ c xs[i]) ((i + 1 : Nat) : Int)) :
  ∀ k, xs.length * s + m < k → F k [] 0 = some (xs.flatMap c) := by
 intro k hk
 have := loop_s (n := xs.length) (m := m) (s := s) hs (fun k i => ∀ p : List β, p.length ≤ ((xs.take i).map (fun x => (c x).length)).sum → F k p (i : Int) = some (p ++ (xs.drop i).flatMap c))
  (fun k hm p hp => by rw [hend k _ hm]; simp)
  (fun k i h hm ih p hp => by
   rw [hstep k _ i h hm hp, ih (p ++ c xs[i]) (by rw [List.length_append, List.take_succ_eq_append_getElem h, List.map_append, List.sum_append]; simp only [List.map_cons, List.map_nil, List.sum_cons, List.sum_nil]; omega), drop_cons h, List.flatMap_cons, List.append_assoc]) xs.length 0 k (by omega) (by omega) hk [] (by simp)
 simpa using this
theorem sum_le {α : Type} (xs : List α) (f : α → Nat) (h : ∀ x, f x ≤ 1) : (xs.map f).sum ≤ xs.length := by
 induction xs with
 | nil => simp
 | cons x xs ih => rw [List.map_cons, List.sum_cons, List.length_cons]; have := h x; omega
theorem take_sum {α : Type} (xs : List α) (f : α → Nat) (h : ∀ x, f x ≤ 1) (i : Nat) : ((xs.take i).map f).sum ≤ xs.length := Nat.le_trans (sum_le _ f h) (by rw [List.length_take]; omega)
theorem flat_one {α : Type} (xs : List α) : xs.flatMap (fun x => [x]) = xs := by induction xs with
 | nil => rfl
 | cons x xs ih => rw [List.flatMap_cons, ih]; rfl
theorem flat_filter {α : Type} (xs : List α) (p : α → Bool) : xs.flatMap (fun x => if p x = true then [x] else []) = xs.filter p := by induction xs with
 | nil => rfl
 | cons x xs ih => rw [List.flatMap_cons, ih, List.filter_cons]; split <;> simp
theorem spec_copyStore_at (l : List S41) (hl : l.length ≤ 1048576) (hc : ∀ c ∈ l, CB 1048576 c) (k : Nat) (hk : l.length < k) : spec_copyStore.f k l = some l := by
 unfold spec_copyStore.f
 have := app_loop l (fun k acc i => spec_copyStore.l0 k l acc i) (fun x => [x]) 0 1 (by omega)
  (fun k acc _ => by simp only [spec_copyStore.l0]; rw [if_neg (by omega)])
  (fun k acc i h _ ha => by
   have := take_sum l (fun _ => 1) (by simp) i
   obtain ⟨c0, c1, c2⟩ := hc _ (List.getElem_mem h)
   simp only [List.length_singleton] at ha
   simp only [spec_copyStore.l0]
   rw [if_pos (by omega), if_pos (by omega), rd_cell h, spec_copyCell_at _ _ (by omega) (by omega), bsome, if_pos (by omega), wnext h (by omega)]) k (by omega)
 rw [flat_one] at this; exact this
theorem spec_put_at (l : List S41) (w : List S68) (v : List S28) (hl : l.length ≤ 1000000) (hc : ∀ c ∈ l, CB 1048576 c) (hw : w.length ≤ 1048576) (hv : v.length ≤ 1048576) (k : Nat) (hk : 8388608 < k) : spec_put.f k l w v = some (setS w v l) := by
 unfold spec_put.f
 rw [spec_cellAt_at l w (by omega) hc (by omega) k (by omega), bsome]
 have hS := setS_low w v l 0
 obtain ⟨h2, h3, h4⟩ := lowAt_in w l 0
 generalize lowAt w l 0 = p at *
 obtain ⟨i, ok⟩ := p
 simp only at h2 h3 h4 hS ⊢
 have hi : i ≤ l.length := by omega
 rw [if_pos (by omega), if_pos (by omega)]
 have e1 : ((i : Int)).toNat = i := by omega
 rw [e1, spec_copyStore_at (l.take i) (by rw [List.length_take]; omega) (fun c hq => hc c (List.mem_of_mem_take hq)) k (by rw [List.length_take]; omega), bsome, spec_copyCell_at w v hw hv, bsome, if_pos (by rw [List.length_take]; omega), bsome]
 have hlen : (l.take i ++ [(⟨w, v⟩ : S41)]).length ≤ 1048577 := by rw [List.length_append, List.length_take]; simp; omega
 have hap : ∀ j, l.take i ++ [(⟨w, v⟩ : S41)] ++ l.drop j = l.take i ++ ((⟨w, v⟩ : S41) :: l.drop j) := fun j => by simp
 cases ok
 ·rw [if_neg (by simp)]
  rw [spec_copyStore_at (l.drop i) (by rw [List.length_drop]; omega) (fun c hq => hc c (List.mem_of_mem_drop hq)) k (by rw [List.length_drop]; omega), bsome, if_pos (by show (l.take i ++ [(⟨w, v⟩ : S41)]).length + _ < _; rw [List.length_drop]; omega), hap]
  rw [← hS]; simp
 ·have h5 : i < l.length := by have := h4 rfl; omega
  rw [if_pos rfl, wnext h5 (by omega), if_pos (by omega), if_pos (by omega), show (((i + 1 : Nat) : Int)).toNat = i + 1 by omega]
  rw [spec_copyStore_at (l.drop (i + 1)) (by rw [List.length_drop]; omega) (fun c hq => hc c (List.mem_of_mem_drop hq)) k (by rw [List.length_drop]; omega), bsome, if_pos (by show (l.take i ++ [(⟨w, v⟩ : S41)]).length + _ < _; rw [List.length_drop]; omega), hap]
  rw [← hS]; simp
theorem goods_l {l : List Int} : ∀ (n k : Nat) (acc : List S28) (a f : Int), Src l a f → n + 40 < k → acc.length + n ≤ 1000 → (∀ v ∈ acc, v.f2.size ≤ 20) → ∃ r a' f', spec_source_goods.l0 k (n : Int) acc l a f = some (r, a', f') ∧ r.length ≤ acc.length + n ∧ (∀ v ∈ r, v.f2.size ≤ 20) ∧ Src l a' f' := by
 intro n
 induction n with
 | zero =>
  intro k acc a f h hk hn ha
  obtain ⟨k, rfl⟩ : ∃ m, k = m + 1 := ⟨k - 1, by omega⟩
  simp only [spec_source_goods.l0]
  rw [if_neg (by omega)]
  exact ⟨_, _, _, rfl, by omega, ha, h⟩
 | succ n ih =>
  intro k acc a f h hk hn ha
  obtain ⟨k, rfl⟩ : ∃ m, k = m + 1 := ⟨k - 1, by omega⟩
  simp only [spec_source_goods.l0]
  rw [if_pos (by omega)]
  obtain ⟨x, y, z, a1, f1, e1, h1, -, -, s1⟩ := good_tells h k (by omega)
  rw [e1, bsome, if_pos (by omega), w64 (by omega) (by omega), show ((n + 1 : Nat) : Int) - 1 = (n : Int) by omega]
  obtain ⟨r, a', f', er, hr, hr', sr⟩ := ih k (acc ++ [⟨x, y, z⟩]) a1 f1 s1 (by omega) (by simp; omega) (fun v hv => by
   rcases List.mem_append.1 hv with hv | hv
   ·exact ha v hv
   ·simp at hv; subst hv; exact h1)
  exact ⟨r, a', f', er, by simp at hr; omega, hr', sr⟩
theorem goods_tells {l : List Int} {a f : Int} (n : Int) (hn : 0 ≤ n ∧ n ≤ 10) (h : Src l a f) (k : Nat) (hk : 60 < k) : ∃ r a' f', spec_source_goods.f k l a f n = some (r, a', f') ∧ r.length ≤ 10 ∧ (∀ v ∈ r, v.f2.size ≤ 20) ∧ Src l a' f' := by
 unfold spec_source_goods.f
 obtain ⟨r, a1, f1, e1, h1, h2, s1⟩ := goods_l n.toNat k ([] : List S28) a f h (by omega) (by simp; omega) (by simp)
 rw [show ((n.toNat : Nat) : Int) = n by omega] at e1
 exact ⟨r, a1, f1, e1, by simp at h1; omega, h2, s1⟩
theorem cells_l {l : List Int} : ∀ (n k : Nat) (acc : List S41) (a f : Int), Src l a f → n + 8388610 < k → acc.length + n ≤ 1000 → (∀ c ∈ acc, CB 40 c) → ∃ r a' f', spec_source_cells.l0 k acc (n : Int) l a f = some (r, a', f') ∧ r.length ≤ acc.length + n ∧ (∀ c ∈ r, CB 40 c) ∧ Src l a' f' := by
 intro n
 induction n with
 | zero =>
  intro k acc a f h hk hn ha
  obtain ⟨k, rfl⟩ : ∃ m, k = m + 1 := ⟨k - 1, by omega⟩
  simp only [spec_source_cells.l0]
  rw [if_neg (by omega)]
  exact ⟨_, _, _, rfl, by omega, ha, h⟩
 | succ n ih =>
  intro k acc a f h hk hn ha
  obtain ⟨k, rfl⟩ : ∃ m, k = m + 1 := ⟨k - 1, by omega⟩
  simp only [spec_source_cells.l0]
  rw [if_pos (by omega)]
  obtain ⟨w, a1, f1, e1, h1, s1⟩ := slots_tells h k (by omega)
  rw [e1, bsome]
  obtain ⟨v, a2, f2, e2, p2, q2, s2⟩ := pick_tells 4 s1 k (by omega)
  rw [e2, bsome]
  obtain ⟨vs, a3, f3, e3, h3, h4, s3⟩ := goods_tells v (by omega) s2 k (by omega)
  rw [e3, bsome, spec_place_at w (by omega) k (by omega), bsome, w64 (by omega) (by omega), show ((n + 1 : Nat) : Int) - 1 = (n : Int) by omega]
  split
  ·rw [spec_put_at acc w vs (by omega) (fun c hc => by obtain ⟨c0, c1, c2⟩ := ha c hc; exact ⟨by omega, by omega, fun v hv => by have := c2 v hv; omega⟩) (by omega) (by omega) k (by omega), bsome]
   have hsl := setS_length w vs acc
   obtain ⟨r, a', f', er, hr, hr', sr⟩ := ih k (setS w vs acc) a3 f3 s3 (by omega) (by omega) (fun c hc => by
    rcases setS_mem hc with rfl | hc
    ·exact ⟨by show w.length ≤ 40; omega, by show vs.length ≤ 40; omega, fun v hv => by have := h4 v hv; omega⟩
    ·exact ha c hc)
   exact ⟨r, a', f', er, by omega, hr', sr⟩
  ·obtain ⟨r, a', f', er, hr, hr', sr⟩ := ih k acc a3 f3 s3 (by omega) (by omega) ha
   exact ⟨r, a', f', er, by omega, hr', sr⟩
theorem cells_tells {l : List Int} {a f : Int} (h : Src l a f) (k : Nat) (hk : 8388620 < k) : ∃ r a' f', spec_source_cells.f k l a f = some (r, a', f') ∧ r.length ≤ 10 ∧ (∀ c ∈ r, CB 40 c) ∧ Src l a' f' := by
 unfold spec_source_cells.f
 obtain ⟨v1, a1, f1, e1, p1, q1, s1⟩ := pick_tells 5 h k (by omega)
 rw [e1, bsome]
 obtain ⟨r, a3, f3, e3, h3, h4, s3⟩ := cells_l v1.toNat k ([] : List S41) a1 f1 s1 (by omega) (by simp; omega) (by simp)
 rw [show ((v1.toNat : Nat) : Int) = v1 by omega] at e3
 exact ⟨r, a3, f3, e3, by simp at h3; omega, h4, s3⟩
theorem sameValues_refl (l : List S28) (hl : l.length ≤ 4611686018427387904) (k : Nat) (hk : l.length < k) : spec_sameValues.f k l l = some true := by
 have := all_loop l (fun k i => spec_sameValues.l0 k l l i) (fun _ => true) true 0 1 (by omega)
  (fun k _ => by simp only [spec_sameValues.l0]; rw [if_neg (by omega)])
  (fun k i h _ => by
   simp only [spec_sameValues.l0]
   rw [if_pos (by omega), if_pos (by omega), if_pos (by omega), wnext h hl]
   simp) k (by omega)
 unfold spec_sameValues.f
 rw [if_pos rfl, this]; congr 1; simp [List.all_eq_true]
theorem impl_storeFind_at (l : List S41) (w : List S68) (hl : l.length ≤ 1048576) (hb : ∀ c ∈ l, CB 1048576 c) (hw : w.length ≤ 2097152) (k : Nat) (hk : 8388608 < k) : impl_storeFind.f k l w = some (match stand w l 0 with | none => -1 | some i => (i : Int)) := by
 have := loop_s (n := l.length) (m := 2097160) (s := 1) (by omega) (fun k i => impl_storeFind.l0 k w l (l.length : Int) (i : Int) = some (match stand w (l.drop i) i with | none => -1 | some i => (i : Int)))
  (fun k _ => by simp only [impl_storeFind.l0]; rw [if_neg (by omega), List.drop_length]; rfl)
  (fun k i h hk ih => by
   obtain ⟨c0, c1, c2⟩ := hb _ (List.getElem_mem h)
   simp only [impl_storeFind.l0]
   rw [if_pos (by omega), if_pos (by omega), if_pos (by omega), rd_cell h, wnext h (by omega), drop_cons h, ih, impl_cmp_at _ _ (by omega) k (by omega), bsome]
   conv => rhs; unfold stand
   by_cases e : cmp l[i].f0 w = 0
   ·rw [if_pos e, if_pos e]
   ·rw [if_neg e, if_neg e]) l.length 0 k (by omega) (by omega) (by omega)
 unfold impl_storeFind.f
 exact this
theorem sameVals_refl (l : List S28) (hl : l.length ≤ 4611686018427387904) (k : Nat) (hk : l.length < k) : spec_SameVals.f k l l = some true := by
 unfold spec_SameVals.f
 rw [sameValues_refl l hl k hk, bsome]
def getS (w : List S68) (l : List S41) : List S28 × Bool :=
 if storeOk l = true ∧ plOk w = true then (match l.find? (isAt w) with | none => ([], false) | some c => (c.f1, true)) else ([], false)
theorem impl_get_at (l : List S41) (w : List S68) (hl : l.length ≤ 1048576) (hc : ∀ c ∈ l, CB 1048576 c) (hw : w.length ≤ 1048576) (k : Nat) (hk : 8388610 < k) : impl_StoreGet.f k l w = some (getS w l) := by
 have j0 : ∀ b : Bool, impl_StoreGet.j0 k l w b = some (if b = true then ([], false) else (match l.find? (isAt w) with | none => ([], false) | some c => (c.f1, true))) := by
  intro b
  obtain ⟨k, rfl⟩ : ∃ q, k = q + 1 := ⟨k - 1, by omega⟩
  simp only [impl_StoreGet.j0]
  cases b
  ·rw [if_neg (by decide), if_neg (by decide), impl_storeFind_at l w hl hc (by omega) k (by omega), bsome]
   rcases stand_find w l 0 with ⟨h1, h2⟩ | ⟨j, hj, h1, h2⟩
   ·rw [h1, h2]; rfl
   ·rw [h1, h2]
    obtain ⟨c0, c1, c2⟩ := hc _ (List.getElem_mem hj)
    simp only [Nat.zero_add]
    rw [if_neg (by omega), if_pos (by omega), if_pos (by omega), rd_cell hj]
    unfold impl_valsCopy.f
    rw [if_pos (by simp only [List.length_nil]; omega), bsome]; rfl
  ·rfl
 unfold impl_StoreGet.f getS
 rw [impl_store_at l (by omega) 1048576 (by omega) hc k (by omega), bsome]
 cases storeOk l
 ·rw [if_neg (by decide), j0]; rfl
 ·rw [if_pos rfl, impl_place_at w (by omega) k (by omega), bsome, j0]
  cases plOk w <;> rfl
theorem getS_bound {l : List S41} {w : List S68} {M : Nat} (hc : ∀ c ∈ l, CB M c) : (getS w l).1.length ≤ M := by
 unfold getS
 split
 ·cases h : l.find? (isAt w) with
  | none => simp
  | some c => exact (hc c (find_mem h).1).2.1
 ·simp
theorem spec_get_at (l : List S41) (w : List S68) (hl : l.length ≤ 1048576) (hc : ∀ c ∈ l, CB 1048576 c) (hw : w.length ≤ 1048576) (k : Nat) (hk : 8388610 < k) : spec_StoreGet.f k l w = some (getS w l) := by
 have j0 : ∀ b : Bool, (b = false → storeOk l = true) → spec_StoreGet.j0 k l w b = some (if b = true then ([], false) else (match l.find? (isAt w) with | none => ([], false) | some c => (c.f1, true))) := by
  intro b hb
  obtain ⟨k, rfl⟩ : ∃ q, k = q + 1 := ⟨k - 1, by omega⟩
  simp only [spec_StoreGet.j0]
  cases b
  ·have hs := hb rfl
   rw [if_neg (by decide), if_neg (by decide), spec_cellAt_at l w hl hc (by omega) k (by omega), bsome]
   have h1 : stand w l 0 = if (lowAt w l 0).2 = true then some (lowAt w l 0).1 else none := by
    unfold storeOk at hs; rw [Bool.and_eq_true] at hs
    exact stand_low hs.1 0
   obtain ⟨h2, h3, h4⟩ := lowAt_in w l 0
   generalize lowAt w l 0 = p at *
   obtain ⟨i, ok⟩ := p
   rcases stand_find w l 0 with ⟨e1, e2⟩ | ⟨j, hj, e1, e2⟩
   ·rw [e2]
    cases ok
    ·rfl
    ·rw [e1] at h1; cases h1
   ·rw [e2]
    cases ok
    ·rw [e1] at h1; cases h1
    ·rw [e1] at h1
     have hij : i = j := by
      have := Option.some.inj (show some (0 + j) = some i from h1); omega
     subst hij
     obtain ⟨c0, c1, c2⟩ := hc _ (List.getElem_mem hj)
     show (if true = true then _ else _) = _
     rw [if_pos rfl, bsome, if_pos (by show (0 : Int) ≤ (i : Int); omega), if_pos (by show (i : Int) < _; omega), rd_cell hj, if_pos (by simp only [List.length_nil]; omega)]; rfl
  ·rfl
 unfold spec_StoreGet.f getS
 rw [spec_store_at l (by omega) 1048576 (by omega) hc k (by omega), bsome]
 cases hs : storeOk l
 ·rw [if_neg (by decide), j0 true (by simp)]; rfl
 ·rw [if_pos rfl, spec_place_at w (by omega) k (by omega), bsome, j0 _ (fun _ => hs)]
  cases plOk w <;> rfl
theorem sameStore_refl (l : List S41) (M : Nat) (hM : M ≤ 1048576) (hl : l.length ≤ 1048576) (hc : ∀ c ∈ l, CB M c) (k : Nat) (hk : l.length + 3 * M + 10 < k) : spec_SameStore.f k l l = some true := by
 have := all_loop l (fun k i => spec_sameStore.l0 k l l i) (fun _ => true) true (3 * M + 5) 1 (by omega)
  (fun k _ => by simp only [spec_sameStore.l0]; rw [if_neg (by omega)])
  (fun k i h hk => by
   obtain ⟨c0, c1, c2⟩ := hc _ (List.getElem_mem h)
   simp only [spec_sameStore.l0]
   rw [if_pos (by omega), if_pos (by omega), if_pos (by omega), rd_cell h, spec_cmp_at _ _ (by omega) (by omega) k (by omega), bsome, if_pos (cmp_refl _), sameValues_refl _ (by omega) k (by omega), bsome, wnext h (by omega)]; simp) k (by omega)
 unfold spec_SameStore.f spec_sameStore.f
 rw [if_pos rfl, this, bsome]; congr 1; simp [List.all_eq_true]
theorem impl_cellCopy_at (a : List S68) (b : List S28) (ha : a.length ≤ 1048576) (hb : b.length ≤ 1048576) : impl_cellCopy.f a b = some (a, b) := by
 unfold impl_cellCopy.f impl_placeCopy.f impl_valsCopy.f
 rw [if_pos (by simp only [List.length_nil]; omega), bsome, if_pos (by simp only [List.length_nil]; omega), bsome]; rfl
theorem impl_copies {a : List S68} {b : List S28} (ha : a.length ≤ 1048576) (hb : b.length ≤ 1048576) : impl_placeCopy.f a = some a ∧ impl_valsCopy.f b = some b := by
 unfold impl_placeCopy.f impl_valsCopy.f
 rw [if_pos (by simp only [List.length_nil]; omega), if_pos (by simp only [List.length_nil]; omega)]; exact ⟨rfl, rfl⟩
theorem impl_set_at (l : List S41) (w : List S68) (v : List S28) (hl : l.length ≤ 1000000) (hc : ∀ c ∈ l, CB 1048576 c) (hw : w.length ≤ 1048576) (hv : v.length ≤ 1048576) (k : Nat) (hk : 8388608 < k) : impl_storeSet.f k l w v = some (setS w v l) := by
 obtain ⟨ew, ev⟩ := impl_copies hw hv
 have key := loop_s (n := l.length) (m := 3145740) (s := 2) (by omega) (fun k i => (∀ (acc : List S41), acc.length ≤ i → impl_storeSet.l0 k w v acc false l (l.length : Int) (i : Int) = some (acc ++ setS w v (l.drop i))) ∧ (∀ (acc : List S41), acc.length ≤ i + 1 → impl_storeSet.l0 k w v acc true l (l.length : Int) (i : Int) = some (acc ++ l.drop i)))
  (fun k _ => by
   simp only [impl_storeSet.l0]
   rw [List.drop_length]
   refine ⟨fun acc ha => ?_, fun acc ha => ?_⟩ <;> rw [if_neg (show ¬ ((l.length : Int) < (l.length : Int)) by omega)]
   ·rw [if_neg (show ¬ (false = true) by decide), ew, bsome, ev, bsome, if_pos (by omega)]; rfl
   ·rw [if_pos trivial, List.append_nil])
  (fun k i h hk ih => by
   obtain ⟨ih0, ih1⟩ := ih
   obtain ⟨c0, c1, c2⟩ := hc _ (List.getElem_mem h)
   have ecc := impl_cellCopy_at l[i].f0 l[i].f1 c0 c1
   have e5 : (⟨l[i].f0, l[i].f1⟩ : S41) = l[i] := rfl
   simp only [impl_storeSet.l0, impl_storeSet.j1]
   simp only [if_pos (show (i : Int) < (l.length : Int) by omega), if_pos (show (0 : Int) ≤ (i : Int) by omega)]
   simp only [rd_cell h, impl_cmp_at w l[i].f0 (by omega) (k + 1) (by omega), bsome, ew, ev, ecc, wnext h (show l.length ≤ 4611686018427387904 by omega), drop_cons h]
   simp only [bsome, e5, Bool.not_true, Bool.not_false, ite_self]
   refine ⟨fun acc ha => ?_, fun acc ha => ?_⟩
   ·rw [setS_cons]
    by_cases e0 : cmp w l[i].f0 = 0
    ·rw [if_pos (show cmp w l[i].f0 ≤ 0 by omega), if_pos trivial, if_pos (show acc.length < 2932031007402 by omega), if_pos e0, if_pos e0, ih1 _ (by simp; omega)]; simp
    ·by_cases e1 : cmp w l[i].f0 < 0
     ·rw [if_pos (show cmp w l[i].f0 ≤ 0 by omega), if_pos trivial, if_pos (show acc.length < 2932031007402 by omega), if_neg e0, if_pos (by rw [List.length_append]; simp; omega), if_neg e0, if_pos e1, ih1 _ (by simp; omega)]; simp
     ·rw [if_neg (show ¬ cmp w l[i].f0 ≤ 0 by omega), if_neg (show ¬ (false = true) by decide), if_pos (show acc.length < 2932031007402 by omega), if_neg e0, if_neg e1, ih0 _ (by simp; omega)]; simp
   ·rw [if_neg (show ¬ (false = true) by decide), if_pos (show acc.length < 2932031007402 by omega), ih1 _ (by simp; omega)]; simp) l.length 0 k (by omega) (by omega) (by omega)
 unfold impl_storeSet.f
 have := key.1 [] (by simp)
 simpa using this
def putS (w : List S68) (v : List S28) (l : List S41) : List S41 × Bool :=
 if storeOk l = true ∧ plOk w = true ∧ v.length ≤ 3 ∧ vsOk v = true then (if 200 < (setS w v l).length then ([], false) else (setS w v l, true)) else ([], false)
theorem impl_putS_at (l : List S41) (w : List S68) (v : List S28) (hl : l.length ≤ 1000000) (hc : ∀ c ∈ l, CB 1048576 c) (hw : w.length ≤ 1048576) (hv : v.length ≤ 1048576) (hm : ∀ x ∈ v, x.f2.size < 1048576) (k : Nat) (hk : 8388610 < k) : impl_StorePut.f k l w v = some (putS w v l) := by
 have j0 : ∀ b : Bool, impl_StorePut.j0 k l w v b = some (if b = true then ([], false) else if 200 < (setS w v l).length then ([], false) else (setS w v l, true)) := by
  intro b
  obtain ⟨k, rfl⟩ : ∃ q, k = q + 1 := ⟨k - 1, by omega⟩
  simp only [impl_StorePut.j0]
  cases b
  ·rw [if_neg (by decide), if_neg (by decide), impl_set_at l w v hl hc hw hv k (by omega), bsome]
   by_cases h : 200 < (setS w v l).length
   ·rw [if_pos (by omega), if_pos h]
   ·rw [if_neg (by omega), if_neg h]
  ·rfl
 unfold impl_StorePut.f putS
 rw [impl_store_at l (by omega) 1048576 (by omega) hc k (by omega), bsome, impl_place_at w (by omega) k (by omega), bsome, impl_vals_at v (by omega) 1048576 hm (by omega) k (by omega), bsome]
 simp only [j0]
 cases hs : storeOk l
 ·simp
 ·cases hp : plOk w
  ·simp
  ·by_cases h3 : v.length ≤ 3
   ·rw [if_pos rfl, if_pos rfl, if_neg (by omega)]
    cases vsOk v <;> simp [h3]
   ·rw [if_pos rfl, if_pos rfl, if_pos (by omega)]; simp [h3]
theorem getDraw {l : List Int} (h : Src l 0 4000) (k : Nat) (hk : 8388630 < k) : ∃ s w, spec_DrawStoreGet.f k l = some (s, w) ∧ s.length ≤ 10 ∧ (∀ c ∈ s, CB 40 c) ∧ w.length ≤ 40 := by
 unfold spec_DrawStoreGet.f spec_newSource.f
 rw [bsome]
 obtain ⟨s, a1, f1, e1, h1, h2, s1⟩ := cells_tells h k (by omega)
 show ∃ s' w, Option.bind (spec_source_cells.f k l 0 4000) _ = some (s', w) ∧ _
 rw [e1, bsome]
 have key : ∀ (b : Bool) (a f : Int), Src l a f → (b = true → 0 < s.length) → ∃ s' w, spec_DrawStoreGet.j0 k s b l a f = some (s', w) ∧ s'.length ≤ 10 ∧ (∀ c ∈ s', CB 40 c) ∧ w.length ≤ 40 := by
  intro b a f hs hb
  obtain ⟨k, rfl⟩ : ∃ q, k = q + 1 := ⟨k - 1, by omega⟩
  simp only [spec_DrawStoreGet.j0]
  cases b
  ·rw [if_neg (by decide)]
   obtain ⟨w, a2, f2, e2, h3, s2⟩ := slots_tells hs k (by omega)
   rw [e2, bsome]
   exact ⟨_, _, rfl, h1, h2, by show w.length ≤ 40; omega⟩
  ·have hp := hb rfl
   rw [if_pos rfl, bsome]
   obtain ⟨v, a2, f2, e2, p2, q2, s2⟩ := pick_tells (s.length : Int) hs k (by omega)
   rw [e2, bsome]
   obtain ⟨i, hi⟩ : ∃ i : Nat, (i : Int) = v := ⟨v.toNat, by omega⟩
   subst hi
   have hlt : i < s.length := by omega
   obtain ⟨c0, c1, c2⟩ := h2 _ (List.getElem_mem hlt)
   rw [if_pos (by show (0 : Int) ≤ (i : Int); omega), if_pos (by show (i : Int) < _; omega), rd_cell hlt, if_pos (by simp only [List.length_nil]; omega)]
   exact ⟨_, _, rfl, h1, h2, c0⟩
 show ∃ s' w, (if (s.length : Int) > 0 then Option.bind (spec_source_pick.f k l a1 f1 3) _ else spec_DrawStoreGet.j0 k s false l a1 f1) = some (s', w) ∧ _
 by_cases hs : (s.length : Int) > 0
 ·rw [if_pos hs]
  obtain ⟨v, a2, f2, e2, p2, q2, s2⟩ := pick_tells 3 s1 k (by omega)
  rw [e2, bsome]
  exact key _ _ _ s2 (fun _ => by omega)
 ·rw [if_neg hs]
  exact key _ _ _ s1 (fun h => by cases h)
theorem FnStoreGet : laws_FnStoreGet.Pure := by
 intro l _ _ hl
 obtain ⟨k, hk⟩ : ∃ k : Nat, k = 33554432 := ⟨_, rfl⟩
 refine ⟨k + 3, ?_⟩
 unfold laws_FnStoreGet.f
 by_cases hlen : (l.length : Int) > 1048576
 ·rw [if_pos hlen]
 rw [if_neg hlen]
 obtain ⟨s, w, e1, h1, h2, h3⟩ := getDraw (src_new hl) (k + 3) (by omega)
 have hc : ∀ c ∈ s, CB 1048576 c := fun c hc => by obtain ⟨c0, c1, c2⟩ := h2 c hc; exact ⟨by omega, by omega, fun v hv => by have := c2 v hv; omega⟩
 rw [e1, bsome]
 show Option.bind (impl_StoreGet.f (k + 3) s w) _ = _
 rw [impl_get_at s w (by omega) hc (by omega) (k + 3) (by omega), bsome]
 show Option.bind (spec_StoreGet.f (k + 3) s w) _ = _
 rw [spec_get_at s w (by omega) hc (by omega) (k + 3) (by omega), bsome]
 have hg := getS_bound (w := w) h2
 show Option.bind (spec_SameVals.f (k + 3) (getS w s).1 (getS w s).1) _ = _
 rw [sameVals_refl _ (by omega) (k + 3) (by omega), bsome, if_pos rfl]
 show laws_FnStoreGet.j0 (k + 2 + 1) s w (getS w s).1 (getS w s).2 ((getS w s).2 == (getS w s).2) = _
 rw [beq_self_eq_true]
 simp only [laws_FnStoreGet.j0, if_true]
 show laws_FnStoreGet.j1 (k + 1 + 1) s w (getS w s).1 true (!(getS w s).2) = _
 simp only [laws_FnStoreGet.j1]
 by_cases hok : storeOk s = true ∧ plOk w = true
 ·cases hf : s.find? (isAt w) with
  | none =>
   have eg : getS w s = ([], false) := by unfold getS; rw [if_pos hok, hf]
   rw [eg]; rfl
  | some c =>
   have eg : getS w s = (c.f1, true) := by unfold getS; rw [if_pos hok, hf]
   rw [eg, if_neg (show ¬ ((!true) = true) by decide)]
   have hso := (storeOk_iff s).1 hok.1
   have hco : cellOk c = true := hso.1 c (find_mem hf).1
   unfold cellOk at hco
   simp only [Bool.and_eq_true, decide_eq_true_eq] at hco
   obtain ⟨c0, c1, c2⟩ := h2 c (find_mem hf).1
   have eS := setS_same hso.2.1 hf
   have ep : putS w c.f1 s = (s, true) := by
    unfold putS
    rw [if_pos ⟨hok.1, hok.2, hco.2.1, hco.2.2⟩, eS, if_neg (by omega)]
   show Option.bind (impl_StorePut.f (k + 1) s w c.f1) _ = _
   rw [impl_putS_at s w c.f1 (by omega) hc (by omega) (by omega) (fun x hx => by have := c2 x hx; omega) (k + 1) (by omega), bsome, ep]
   show (if true = true then Option.bind (spec_SameStore.f (k + 1) s s) _ else _) = _
   rw [if_pos rfl, sameStore_refl s 40 (by omega) (by omega) h2 (k + 1) (by omega), bsome]
 ·have eg : getS w s = ([], false) := by unfold getS; rw [if_neg hok]
  rw [eg]; rfl
end Go.Proofs.Ytheifobeaemegaa.Pure
