/- The pure statement of the law 'FnExactStorePut': for every store, place and list of states the law's function returns true, so the program's StorePut is the reference's and shares no memory (no other condition). -/
import Derived.Test.YtpadhphdglbciaaZFnExactStorePutQFnExactStorePutx15
namespace Go.Proofs.Ytpadhphdglbciaa.Pure
open Go Go.RowKit Go.Proofs.Ytpadhphdglbciaa.PFnExactStorePut Go.Proofs.YtpadhphdglbciaaW.PrintWords Go.Proofs.YtpadhphdglbciaaW.PrintLast
set_option linter.unusedVariables false
set_option linter.unusedSimpArgs false
theorem w64 {n : Int} (h1 : -9223372036854775808 ≤ n) (h2 : n ≤ 9223372036854775807) : wrap64 n = n := by
 unfold wrap64; omega
theorem wnext {i n : Nat} (h : i < n) (hn : n ≤ 4611686018427387904) : wrap64 ((i : Int) + 1) = ((i + 1 : Nat) : Int) := by
 rw [w64 (by omega) (by omega)]; omega
theorem loop_up {n : Nat} (Q : Nat → Nat → Prop) (last : ∀ k, Q (k + 1) n) (step : ∀ k i, i < n → Q k (i + 1) → Q (k + 1) i) : ∀ k i, i ≤ n → n - i < k → Q k i := by
 intro k
 induction k with
 | zero => intro i _ h; omega
 | succ k ih =>
  intro i hi hk
  by_cases h : i = n
  ·subst h; exact last k
  ·exact step k i (by omega) (ih (i + 1) (by omega) (by omega))
theorem drop_at {α : Type} {l : List α} {i : Nat} (d : α) (h : i < l.length) : l.drop i = l.getD ((i : Int)).toNat d :: l.drop (i + 1) := by
 rw [List.drop_eq_getElem_cons h, List.getD_eq_getElem?_getD]
 simp [h]
theorem range_at {i n : Nat} (h : i < n) : List.range' i (n - i) = i :: List.range' (i + 1) (n - (i + 1)) := by
 rw [show n - i = (n - (i + 1)) + 1 by omega, List.range'_succ]
theorem range_end (n : Nat) : List.range' n (n - n) = [] := by simp
theorem bsome {α β : Type} (a : α) (f : α → Option β) : (some a).bind f = f a := by
 cases h : f a <;> simp [h]
theorem getD_at {α : Type} {l : List α} {i : Nat} (d : α) (h : i < l.length) : l.getD ((i : Int)).toNat d = l[i] := by
 simp [List.getD_eq_getElem?_getD, h]
theorem drop_cons {α : Type} {l : List α} {i : Nat} (h : i < l.length) : l.drop i = l[i] :: l.drop (i + 1) := List.drop_eq_getElem_cons h
theorem loop_s {n m s : Nat} (hs : 0 < s) (Q : Nat → Nat → Prop) (last : ∀ k, m ≤ k → Q (k + 1) n) (step : ∀ k i, i < n → m ≤ k → Q k (i + 1) → Q (k + s) i) : ∀ d i k, n - i = d → i ≤ n → d * s + m < k → Q k i := by
 intro d
 induction d with
 | zero =>
  intro i k hd hi hk
  obtain rfl : i = n := by omega
  obtain ⟨k, rfl⟩ : ∃ q, k = q + 1 := ⟨k - 1, by omega⟩
  exact last k (by omega)
 | succ d ih =>
  intro i k hd hi hk
  rw [Nat.add_mul, Nat.one_mul] at hk
  obtain ⟨k, rfl⟩ : ∃ q, k = q + s := ⟨k - s, by omega⟩
  exact step k i (by omega) (by omega) (ih (i + 1) k (by omega) (by omega) (by omega))
theorem all_loop {α : Type} (xs : List α) (F : Nat → Int → Option Bool) (p : α → Bool) (fin : Bool) (m s : Nat) (hs : 0 < s)
  (hend : ∀ k, m ≤ k → F (k + 1) (xs.length : Int) = some fin)
  (hstep : ∀ k i (h : i < xs.length), m ≤ k → F (k + s) (i : Int) = if p xs[i] = true then F k ((i + 1 : Nat) : Int) else some false) :
  ∀ k, xs.length * s + m < k → F k 0 = some (xs.all p && fin) := by
 intro k hk
 have := loop_s (n := xs.length) (m := m) (s := s) hs (fun k i => F k (i : Int) = some ((xs.drop i).all p && fin)) (fun k hm => by show F (k + 1) (xs.length : Int) = _; rw [hend k hm, List.drop_length]; rfl)
  (fun k i h hm ih => by
   show F (k + s) (i : Int) = _
   rw [hstep k i h hm, drop_cons h, List.all_cons]
   have ih' : F k ((i + 1 : Nat) : Int) = some ((xs.drop (i + 1)).all p && fin) := ih
   rw [ih']
   by_cases hp : p xs[i] = true <;> simp [hp]) xs.length 0 k (by omega) (by omega) hk
 simpa using this
theorem map_loop {α β : Type} (xs : List α) (F : Nat → List β → Int → Option (List β)) (c : α → β) (z : β) (m s : Nat) (hs : 0 < s)
  (hend : ∀ k acc, m ≤ k → F (k + 1) acc (xs.length : Int) = some acc)
  (hstep : ∀ k (acc : List β) i (h : i < xs.length), m ≤ k → i < acc.length → F (k + s) acc (i : Int) = F k (acc.set i (c xs[i])) ((i + 1 : Nat) : Int)) :
  ∀ k, xs.length * s + m < k → F k (List.replicate xs.length z) 0 = some (xs.map c) := by
 intro k hk
 have := loop_s (n := xs.length) (m := m) (s := s) hs (fun k i => ∀ p : List β, p.length = i → F k (p ++ List.replicate (xs.length - i) z) (i : Int) = some (p ++ (xs.drop i).map c))
  (fun k hm p hp => by rw [hend k _ hm]; simp)
  (fun k i h hm ih p hp => by
   rw [hstep k _ i h hm (by simp; omega), show xs.length - i = (xs.length - (i + 1)) + 1 by omega, List.replicate_succ]
   have e : (p ++ z :: List.replicate (xs.length - (i + 1)) z).set i (c xs[i]) = (p ++ [c xs[i]]) ++ List.replicate (xs.length - (i + 1)) z := by
    subst hp; simp
   rw [e, ih (p ++ [c xs[i]]) (by simp [hp]), drop_cons h, List.map_cons, List.append_assoc]; rfl) xs.length 0 k (by omega) (by omega) hk [] rfl
 simpa using this
theorem sz_loop {α : Type} (xs : List α) (F : Nat → Int → Int → Option Int) (sz : α → Nat) (m s : Nat) (hs : 0 < s)
  (hend : ∀ (k : Nat) (left : Int), m ≤ k → F (k + 1) left (xs.length : Int) = some left)
  (hstep : ∀ (k : Nat) (left : Int) (i : Nat) (h : i < xs.length), m ≤ k → 0 ≤ left → left ≤ 1048576 → ∃ t, t ≤ left ∧ (0 ≤ t → t = left - sz xs[i]) ∧ F (k + s) left (i : Int) = if t < 0 then some (-1) else F k t ((i + 1 : Nat) : Int)) :
  ∀ (k : Nat) (left : Int), xs.length * s + m < k → 0 ≤ left → left ≤ 1048576 → ∃ r, F k left 0 = some r ∧ r ≤ left ∧ (0 ≤ r → r = left - (xs.map sz).sum) := by
 intro k left hk h0 h1
 have := loop_s (n := xs.length) (m := m) (s := s) hs (fun k i => ∀ left : Int, 0 ≤ left → left ≤ 1048576 → ∃ r, F k left (i : Int) = some r ∧ r ≤ left ∧ (0 ≤ r → r = left - ((xs.drop i).map sz).sum))
  (fun k hm left h0 h1 => ⟨left, by rw [hend k _ hm], by omega, by simp⟩)
  (fun k i h hm ih left h0 h1 => by
   obtain ⟨t, t1, t2, t3⟩ := hstep k left i h hm h0 h1
   by_cases ht : t < 0
   ·exact ⟨-1, by rw [t3, if_pos ht], by omega, by omega⟩
   ·obtain ⟨r, r1, r2, r3⟩ := ih t (by omega) (by omega)
    refine ⟨r, by rw [t3, if_neg ht, r1], by omega, fun hr => ?_⟩
    rw [r3 hr, t2 (by omega), drop_cons h, List.map_cons, List.sum_cons]; omega) xs.length 0 k (by omega) (by omega) hk left h0 h1
 simpa using this
theorem sum_mem {α : Type} {xs : List α} {sz : α → Nat} {x : α} (h : x ∈ xs) : sz x ≤ (xs.map sz).sum := by
 induction xs with
 | nil => cases h
 | cons y ys ih =>
  rw [List.map_cons, List.sum_cons]
  rcases List.mem_cons.1 h with rfl | h
  ·omega
  ·have := ih h; omega
theorem within_at (a b c : Int) : impl_within.f a b c = some (decide (b ≤ a ∧ a ≤ c)) := by
 unfold impl_within.f
 by_cases h : a ≥ b
 ·rw [if_pos h]; congr 1; exact decide_eq_decide.mpr ⟨fun x => ⟨h, x⟩, fun x => x.2⟩
 ·rw [if_neg h]; congr 1; exact (decide_eq_false fun x => h x.1).symm
theorem inRange_at (a b c : Int) : spec_inRange.f a b c = some (decide (b ≤ a ∧ a ≤ c)) := by
 unfold spec_inRange.f
 by_cases h : a ≥ b
 ·rw [if_pos h]; congr 1; exact decide_eq_decide.mpr ⟨fun x => ⟨h, x⟩, fun x => x.2⟩
 ·rw [if_neg h]; congr 1; exact (decide_eq_false fun x => h x.1).symm
def Good (c : Int) : Prop := (97 ≤ c ∧ c ≤ 122) ∨ (48 ≤ c ∧ c ≤ 57) ∨ c = 32
instance (c : Int) : Decidable (Good c) := by unfold Good; exact inferInstance
def goodsFrom (s : ByteArray) (i : Nat) : Bool := (List.range' i (s.size - i)).all fun j => decide (Good (bt s j))
theorem goods_at {s : ByteArray} {i : Nat} (h : i < s.size) : goodsFrom s i = (decide (Good (bt s i)) && goodsFrom s (i + 1)) := by
 unfold goodsFrom; rw [range_at h]; rfl
theorem goods_end (s : ByteArray) : goodsFrom s s.size = true := by
 unfold goodsFrom; rw [range_end]; rfl
def wordOk (s : ByteArray) : Bool := goodsFrom s 0 && decide (s.size ≤ 12)
theorem impl_word_l (s : ByteArray) (hs : s.size ≤ 4611686018427387904) : ∀ k i, i ≤ s.size → s.size - i < k → impl_word.l0 k s (i : Int) = some (goodsFrom s i && decide (s.size ≤ 12)) := by
 refine loop_up (fun k i => impl_word.l0 k s (i : Int) = some (goodsFrom s i && decide (s.size ≤ 12))) ?_ ?_
 ·intro k
  simp only [impl_word.l0]
  rw [if_neg (by omega), goods_end, Bool.true_and]
  congr 1; exact decide_eq_decide.mpr (by omega)
 ·intro k i hi ih
  have e : impl_word.l0 (k + 1) s (i : Int) = if Good (bt s i) then impl_word.l0 k s (wrap64 ((i : Int) + 1)) else some false := by
   simp only [impl_word.l0]
   rw [if_pos (by omega), if_pos (by omega)]
   by_cases hg : Good (bt s i)
   ·rw [if_pos hg]; unfold Good at hg
    repeat' split
    all_goals first
     | rfl
     | (exfalso; omega)
   ·rw [if_neg hg]; unfold Good at hg
    repeat' split
    all_goals first
     | rfl
     | (exfalso; omega)
  rw [e, wnext hi hs, ih, goods_at hi]
  by_cases hg : Good (bt s i) <;> simp [hg]
theorem impl_word_at (s : ByteArray) (hs : s.size ≤ 4611686018427387904) (k : Nat) (hk : s.size < k) : impl_word.f k s = some (wordOk s) := by
 have := impl_word_l s hs k 0 (by omega) (by omega)
 unfold impl_word.f wordOk
 exact this
theorem plain_at (c : Int) : spec_plainByte.f c = some (decide (Good c)) := by
 unfold spec_plainByte.f
 by_cases hg : Good c
 ·rw [decide_eq_true hg]; unfold Good at hg
  repeat' split
  all_goals first
   | rfl
   | (congr 1; exact beq_iff_eq.mpr (by omega))
   | (exfalso; omega)
 ·rw [decide_eq_false hg]; unfold Good at hg
  repeat' split
  all_goals first
   | rfl
   | (congr 1; exact beq_eq_false_iff_ne.mpr (by omega))
   | (exfalso; omega)
theorem spec_word_l (s : ByteArray) (hs : s.size ≤ 4611686018427387904) : ∀ k i, i ≤ s.size → s.size - i < k → spec_validWord.l0 k s (i : Int) = some (goodsFrom s i) := by
 refine loop_up (fun k i => spec_validWord.l0 k s (i : Int) = some (goodsFrom s i)) ?_ ?_
 ·intro k
  simp only [spec_validWord.l0]
  rw [if_neg (by omega), goods_end]
 ·intro k i hi ih
  simp only [spec_validWord.l0]
  rw [if_pos (by omega), if_pos (by omega), plain_at, goods_at hi]
  simp only [Option.bind_some, wnext hi hs, ih]
  by_cases hg : Good (bt s i) <;> simp [hg]
theorem spec_word_at (s : ByteArray) (hs : s.size ≤ 4611686018427387904) (k : Nat) (hk : s.size < k) : spec_validWord.f k s = some (wordOk s) := by
 have := spec_word_l s hs k 0 (by omega) (by omega)
 unfold spec_validWord.f wordOk
 by_cases h : (s.size : Int) > 12
 ·rw [if_pos h, show decide (s.size ≤ 12) = false from decide_eq_false (by omega), Bool.and_false]
 ·rw [if_neg h, show decide (s.size ≤ 12) = true from decide_eq_true (by omega), Bool.and_true]; exact this
def vOk (a b : Int) (s : ByteArray) : Bool :=
 if a = 0 then (if b = 0 then s.toList == ([] : List UInt8) else false)
 else if a = 1 then (if -1000 ≤ b ∧ b ≤ 1000 then s.toList == ([] : List UInt8) else false)
 else if a = 2 then (if b = 0 then wordOk s else false) else false
theorem impl_valOk_at (a b : Int) (s : ByteArray) (hs : s.size ≤ 4611686018427387904) (k : Nat) (hk : s.size < k) : impl_ValOk.f k a b s = some (vOk a b s) := by
 unfold impl_ValOk.f vOk
 simp only [within_at, impl_word_at s hs k hk, Option.bind_some, decide_eq_true_eq]
 repeat' split
 all_goals rfl
theorem spec_val_at (a b : Int) (s : ByteArray) (hs : s.size ≤ 4611686018427387904) (k : Nat) (hk : s.size < k) : spec_validValue.f k a b s = some (vOk a b s) := by
 unfold spec_validValue.f vOk
 simp only [inRange_at, spec_word_at s hs k hk, Option.bind_some, decide_eq_true_eq]
 repeat' split
 all_goals rfl
def slotOk (x : S92) : Bool := decide (0 ≤ x.f0 ∧ x.f0 ≤ 3) && decide (0 ≤ x.f1 ∧ x.f1 ≤ 103)
theorem rd_slot {l : List S92} {i : Nat} (h : i < l.length) : l.drop i = rd_T92 l (i : Int) :: l.drop (i + 1) := drop_at z92 h
def plOk (l : List S92) : Bool := l.all slotOk && decide (l.length ≤ 20)
theorem validSlot_at (x : S92) : spec_validSlot.f x.f0 x.f1 = some (slotOk x) := by
 unfold spec_validSlot.f slotOk
 simp only [inRange_at, Option.bind_some]
 by_cases h : 0 ≤ x.f0 ∧ x.f0 ≤ 3 <;> simp [h]
theorem spec_place_l (l : List S92) (hl : l.length ≤ 4611686018427387904) : ∀ k i, i ≤ l.length → l.length - i < k → spec_validPlace.l0 k l (i : Int) = some ((l.drop i).all slotOk) := by
 refine loop_up (fun k i => spec_validPlace.l0 k l (i : Int) = some ((l.drop i).all slotOk)) ?_ ?_
 ·intro k
  simp only [spec_validPlace.l0]
  rw [if_neg (by omega), List.drop_length]; rfl
 ·intro k i hi ih
  simp only [spec_validPlace.l0]
  rw [if_pos (by omega), if_pos (by omega), validSlot_at, rd_slot hi]
  simp only [Option.bind_some, wnext hi hl, ih, List.all_cons]
  by_cases hg : slotOk (rd_T92 l (i : Int)) = true <;> simp [hg]
theorem spec_place_at (l : List S92) (hl : l.length ≤ 4611686018427387904) (k : Nat) (hk : l.length < k) : spec_validPlace.f k l = some (plOk l) := by
 have := spec_place_l l hl k 0 (by omega) (by omega)
 unfold spec_validPlace.f plOk
 by_cases h : (l.length : Int) > 20
 ·rw [if_pos h, show decide (l.length ≤ 20) = false from decide_eq_false (by omega), Bool.and_false]
 ·rw [if_neg h, show decide (l.length ≤ 20) = true from decide_eq_true (by omega), Bool.and_true]; exact this
theorem impl_place_l (l : List S92) (hl : l.length ≤ 4611686018427387904) : ∀ k i, i ≤ l.length → l.length - i < k → impl_PlaceOk.l0 k l l (l.length : Int) (i : Int) = some ((l.drop i).all slotOk && decide (l.length ≤ 20)) := by
 refine loop_up (fun k i => impl_PlaceOk.l0 k l l (l.length : Int) (i : Int) = some ((l.drop i).all slotOk && decide (l.length ≤ 20))) ?_ ?_
 ·intro k
  simp only [impl_PlaceOk.l0]
  rw [if_neg (by omega), List.drop_length]
  simp only [List.all_nil, Bool.true_and]
  congr 1; exact decide_eq_decide.mpr (by omega)
 ·intro k i hi ih
  simp only [impl_PlaceOk.l0]
  rw [if_pos (by omega), if_pos (by omega), if_pos (by omega), rd_slot hi]
  simp only [within_at, Option.bind_some, wnext hi hl, ih, List.all_cons, slotOk, decide_eq_true_eq]
  by_cases h0 : 0 ≤ (rd_T92 l (i : Int)).f0 ∧ (rd_T92 l (i : Int)).f0 ≤ 3
  ·by_cases h1 : 0 ≤ (rd_T92 l (i : Int)).f1 ∧ (rd_T92 l (i : Int)).f1 ≤ 103
   ·rw [if_pos h0, if_pos h1]; simp [h0, h1]
   ·rw [if_pos h0, if_neg h1]; simp [h0, h1]
  ·rw [if_neg h0]; simp [h0]
theorem impl_place_at (l : List S92) (hl : l.length ≤ 4611686018427387904) (k : Nat) (hk : l.length < k) : impl_PlaceOk.f k l = some (plOk l) := by
 have := impl_place_l l hl k 0 (by omega) (by omega)
 unfold impl_PlaceOk.f plOk
 exact this
def cmp : List S92 → List S92 → Int
 | [], [] => 0
 | [], _ :: _ => -1
 | _ :: _, [] => 1
 | x :: xs, y :: ys => if x.f0 = y.f0 ∧ x.f1 = y.f1 then cmp xs ys else if x.f0 < y.f0 ∨ (x.f0 = y.f0 ∧ x.f1 < y.f1) then -1 else 1
theorem cmp_end {a b : List S92} (i : Nat) (h : i = min a.length b.length) : cmp (a.drop i) (b.drop i) = if (a.length : Int) < (b.length : Int) then -1 else if (a.length : Int) > (b.length : Int) then 1 else 0 := by
 by_cases h1 : a.length < b.length
 ·rw [if_pos (by omega), List.drop_of_length_le (by omega : a.length ≤ i), drop_at z92 (by omega : i < b.length)]; rfl
 ·rw [if_neg (by omega), List.drop_of_length_le (by omega : b.length ≤ i)]
  by_cases h2 : b.length < a.length
  ·rw [if_pos (by omega), drop_at z92 (by omega : i < a.length)]; rfl
  ·rw [if_neg (by omega), List.drop_of_length_le (by omega : a.length ≤ i)]; rfl
theorem cmp_next {a b : List S92} {i : Nat} (ha : i < a.length) (hb : i < b.length) : cmp (a.drop i) (b.drop i) =
  (if (rd_T92 a (i : Int)).f0 = (rd_T92 b (i : Int)).f0 ∧ (rd_T92 a (i : Int)).f1 = (rd_T92 b (i : Int)).f1 then cmp (a.drop (i + 1)) (b.drop (i + 1)) else
   if (rd_T92 a (i : Int)).f0 < (rd_T92 b (i : Int)).f0 ∨ ((rd_T92 a (i : Int)).f0 = (rd_T92 b (i : Int)).f0 ∧ (rd_T92 a (i : Int)).f1 < (rd_T92 b (i : Int)).f1) then -1 else 1) := by
 rw [rd_slot ha, rd_slot hb]; rfl
theorem cmp_refl (a : List S92) : cmp a a = 0 := by
 induction a with
 | nil => rfl
 | cons x xs ih => unfold cmp; rw [if_pos ⟨rfl, rfl⟩]; exact ih
theorem cmp_zero {a b : List S92} (h : cmp a b = 0) : a = b := by
 induction a generalizing b with
 | nil => cases b with
  | nil => rfl
  | cons y ys => simp [cmp] at h
 | cons x xs ih => cases b with
  | nil => simp [cmp] at h
  | cons y ys =>
   unfold cmp at h
   by_cases e : x.f0 = y.f0 ∧ x.f1 = y.f1
   ·rw [if_pos e] at h
    rw [ih h]
    obtain ⟨x0, x1⟩ := x; obtain ⟨y0, y1⟩ := y
    obtain ⟨e0, e1⟩ := e
    simp only at e0 e1
    rw [e0, e1]
   ·rw [if_neg e] at h; split at h <;> omega
theorem cmp_neg (a b : List S92) : cmp b a = - cmp a b := by
 induction a generalizing b with
 | nil => cases b <;> rfl
 | cons x xs ih => cases b with
  | nil => rfl
  | cons y ys =>
   unfold cmp
   by_cases e : x.f0 = y.f0 ∧ x.f1 = y.f1
   ·rw [if_pos e, if_pos ⟨e.1.symm, e.2.symm⟩]; exact ih ys
   ·rw [if_neg e, if_neg (fun q => e ⟨q.1.symm, q.2.symm⟩)]
    by_cases l : x.f0 < y.f0 ∨ (x.f0 = y.f0 ∧ x.f1 < y.f1)
    ·rw [if_pos l, if_neg (by omega)]; rfl
    ·rw [if_neg l, if_pos (by omega)]
theorem cmp_three (a b : List S92) : cmp a b = -1 ∨ cmp a b = 0 ∨ cmp a b = 1 := by
 induction a generalizing b with
 | nil => cases b <;> simp [cmp]
 | cons x xs ih => cases b with
  | nil => simp [cmp]
  | cons y ys =>
   unfold cmp
   split
   ·exact ih ys
   ·split <;> simp
theorem impl_cmp_l (a b : List S92) (hb : b.length ≤ 4611686018427387904) : ∀ k i, i ≤ min a.length b.length → min a.length b.length - i < k → impl_placeCmp.l0 k a b ((min a.length b.length : Nat) : Int) (i : Int) = some (cmp (a.drop i) (b.drop i)) := by
 refine loop_up (fun k i => impl_placeCmp.l0 k a b ((min a.length b.length : Nat) : Int) (i : Int) = some (cmp (a.drop i) (b.drop i))) ?_ ?_
 ·intro k
  simp only [impl_placeCmp.l0]
  rw [if_neg (by omega), cmp_end _ rfl]
  repeat' split
  all_goals rfl
 ·intro k i hi ih
  have ha' : i < a.length := by omega
  have hb' : i < b.length := by omega
  simp only [impl_placeCmp.l0]
  rw [if_pos (by omega), if_pos (by omega), if_pos (by omega), if_pos (by omega), wnext hi (by omega), ih, cmp_next ha' hb']
  generalize rd_T92 a (i : Int) = x
  generalize rd_T92 b (i : Int) = y
  by_cases e : x.f0 = y.f0 ∧ x.f1 = y.f1
  ·rw [if_pos e, if_pos (by simp [e])]
  ·rw [if_neg e, if_neg (by simpa using e)]
   by_cases l : x.f0 < y.f0 ∨ (x.f0 = y.f0 ∧ x.f1 < y.f1)
   ·rw [if_pos l]
    repeat' split
    all_goals first
     | rfl
     | (exfalso; omega)
   ·rw [if_neg l]
    repeat' split
    all_goals first
     | rfl
     | (exfalso; omega)
theorem impl_cmp_at (a b : List S92) (hb : b.length ≤ 4611686018427387904) (k : Nat) (hk : min a.length b.length < k) : impl_placeCmp.f k a b = some (cmp a b) := by
 have := impl_cmp_l a b hb k 0 (by omega) (by omega)
 unfold impl_placeCmp.f
 rw [show mn (a.length : Int) (b.length : Int) = ((min a.length b.length : Nat) : Int) by unfold mn; split <;> omega]
 exact this
theorem spec_cmp_l (a b : List S92) (hb : b.length ≤ 4611686018427387904) (ha : a.length ≤ 4611686018427387904) : ∀ d i k, min a.length b.length - i = d → i ≤ min a.length b.length → 3 * d + 2 ≤ k → spec_comparePlaces.l0 k a b (i : Int) = some (cmp (a.drop i) (b.drop i)) := by
 intro d
 induction d with
 | zero =>
  intro i k hd hi hk
  obtain ⟨k, rfl⟩ : ∃ m, k = m + 2 := ⟨k - 2, by omega⟩
  have he : i = min a.length b.length := by omega
  have hj : spec_comparePlaces.j1 (k + 1) a b (i : Int) false = some (cmp (a.drop i) (b.drop i)) := by
   simp only [spec_comparePlaces.j1]
   rw [if_neg (by simp), cmp_end i he]
   repeat' split
   all_goals rfl
  simp only [spec_comparePlaces.l0]
  by_cases h1 : (i : Int) < (a.length : Int)
  ·rw [if_pos h1, decide_eq_false (by omega : ¬ (i : Int) < (b.length : Int))]; exact hj
  ·rw [if_neg h1]; exact hj
 | succ d ih =>
  intro i k hd hi hk
  obtain ⟨k, rfl⟩ : ∃ m, k = m + 3 := ⟨k - 3, by omega⟩
  have ha' : i < a.length := by omega
  have hb' : i < b.length := by omega
  have hn := ih (i + 1) k (by omega) (by omega) (by omega)
  simp only [spec_comparePlaces.l0]
  rw [if_pos (by omega), decide_eq_true (by omega : (i : Int) < (b.length : Int))]
  simp only [spec_comparePlaces.j1]
  rw [if_pos trivial, if_pos (by omega), if_pos (by omega), if_pos (by omega), cmp_next ha' hb']
  simp only [spec_comparePlaces.j2]
  rw [wnext (n := b.length) hb' hb, hn]
  simp only [show (0 : Int) ≤ (i : Int) from by omega, show (i : Int) < (a.length : Int) from by omega, show (i : Int) < (b.length : Int) from by omega, if_true]
  generalize rd_T92 a (i : Int) = x
  generalize rd_T92 b (i : Int) = y
  by_cases e : x.f0 = y.f0 ∧ x.f1 = y.f1
  ·obtain ⟨e0, e1⟩ := e
   simp [e0, e1]
  ·rw [if_neg e]
   have hne : (!(x.f0 == y.f0) || !(x.f1 == y.f1)) = true := by
    rw [Bool.or_eq_true, Bool.not_eq_true', Bool.not_eq_true', beq_eq_false_iff_ne, beq_eq_false_iff_ne]
    by_cases h0 : x.f0 = y.f0
    ·exact Or.inr fun h1 => e ⟨h0, h1⟩
    ·exact Or.inl h0
   rw [hne]
   by_cases l : x.f0 < y.f0 ∨ (x.f0 = y.f0 ∧ x.f1 < y.f1)
   ·rw [if_pos l]
    by_cases l0 : x.f0 < y.f0
    ·simp [l0]
    ·obtain ⟨e0, e1⟩ : x.f0 = y.f0 ∧ x.f1 < y.f1 := by omega
     simp [e0, e1]
   ·rw [if_neg l]
    have l0 : ¬ x.f0 < y.f0 := by omega
    by_cases e0 : x.f0 = y.f0
    ·have l1 : ¬ x.f1 < y.f1 := by omega
     simp [e0, l1]
    ·simp [l0, e0]
theorem spec_cmp_at (a b : List S92) (ha : a.length ≤ 4611686018427387904) (hb : b.length ≤ 4611686018427387904) (k : Nat) (hk : 3 * min a.length b.length + 2 ≤ k) : spec_comparePlaces.f k a b = some (cmp a b) := by
 have := spec_cmp_l a b hb ha _ 0 k rfl (by omega) (by omega)
 unfold spec_comparePlaces.f
 exact this
def vOkS (x : S99) : Bool := vOk x.f0 x.f1 x.f2
def vsOk (l : List S99) : Bool := l.all vOkS
theorem rd_val {l : List S99} {i : Nat} (h : i < l.length) : rd_T99 l (i : Int) = l[i] := getD_at z99 h
theorem spec_vals_at (l : List S99) (hl : l.length ≤ 4611686018427387904) (m : Nat) (hm : ∀ x ∈ l, x.f2.size < m) (hm' : m ≤ 4611686018427387904) (k : Nat) (hk : l.length + m < k) : spec_validValues.f k l = some (vsOk l) := by
 unfold spec_validValues.f
 rw [all_loop l (fun k i => spec_validValues.l0 k l i) vOkS true m 1 (by omega)
  (fun k _ => by simp only [spec_validValues.l0]; rw [if_neg (by omega)])
  (fun k i h hk => by
   have hx := hm _ (List.getElem_mem h)
   simp only [spec_validValues.l0]
   rw [if_pos (by omega), if_pos (by omega), rd_val h, spec_val_at _ _ _ (by omega) k (by omega), bsome, wnext h hl]; rfl) k (by omega)]
 unfold vsOk; simp
theorem impl_vals_at (l : List S99) (hl : l.length ≤ 4611686018427387904) (m : Nat) (hm : ∀ x ∈ l, x.f2.size < m) (hm' : m ≤ 4611686018427387904) (k : Nat) (hk : l.length + m < k) : impl_valsOk.f k l = some (vsOk l) := by
 unfold impl_valsOk.f
 rw [all_loop l (fun k i => impl_valsOk.l0 k l (l.length : Int) i) vOkS true m 1 (by omega)
  (fun k _ => by simp only [impl_valsOk.l0]; rw [if_neg (by omega)])
  (fun k i h hk => by
   have hx := hm _ (List.getElem_mem h)
   simp only [impl_valsOk.l0]
   rw [if_pos (by omega), if_pos (by omega), if_pos (by omega), rd_val h, impl_valOk_at _ _ _ (by omega) k (by omega), bsome, wnext h hl]; rfl) k (by omega)]
 unfold vsOk; simp
def cellOk (x : S89) : Bool := plOk x.f0 && (decide (x.f1.length ≤ 3) && vsOk x.f1)
def cellsOk : Option (List S92) → List S89 → Bool
 | _, [] => true
 | p, c :: cs => (cellOk c && (match p with | none => true | some q => decide (cmp q c.f0 < 0))) && cellsOk (some c.f0) cs
theorem cellsOk_cons (p : Option (List S92)) (c : S89) (cs : List S89) : cellsOk p (c :: cs) = ((cellOk c && (match p with | none => true | some q => decide (cmp q c.f0 < 0))) && cellsOk (some c.f0) cs) := by cases p <;> rfl
def storeOk (l : List S89) : Bool := cellsOk none l && decide (l.length ≤ 200)
theorem rd_cell {l : List S89} {i : Nat} (h : i < l.length) : rd_T89 l (i : Int) = l[i] := getD_at z89 h
def CB (M : Nat) (c : S89) : Prop := c.f0.length ≤ M ∧ c.f1.length ≤ M ∧ ∀ v ∈ c.f1, v.f2.size ≤ M
theorem wprev {i : Nat} (h : 0 < i) (hi : i ≤ 4611686018427387904) : wrap64 ((i : Int) - 1) = ((i - 1 : Nat) : Int) := by
 rw [w64 (by omega) (by omega)]; omega
theorem spec_store_at (l : List S89) (hl : l.length ≤ 4611686018427387904) (M : Nat) (hM : M ≤ 1073741824) (hc : ∀ c ∈ l, CB M c) (k : Nat) (hk : l.length + (3 * M + 10) < k) : spec_validStore.f k l = some (storeOk l) := by
 have key := loop_s (n := l.length) (m := 3 * M + 10) (s := 1) (by omega) (fun k i => ∀ p, (i = 0 → p = none) → (∀ (h : 0 < i) (h' : i - 1 < l.length), p = some l[i - 1].f0) → spec_validStore.l0 k l (i : Int) = some (cellsOk p (l.drop i)))
  (fun k _ p _ _ => by simp only [spec_validStore.l0]; rw [if_neg (by omega), List.drop_length]; rfl)
  (fun k i h hk ih p h0 h1 => by
   obtain ⟨c0, c1, c2⟩ := hc _ (List.getElem_mem h)
   have ih' := ih (some l[i].f0) (by omega) (fun _ _ => by simp)
   simp only [spec_validStore.l0]
   rw [if_pos (by omega), if_pos (by omega), rd_cell h, drop_cons h, wnext h hl, ih']
   rw [spec_place_at _ (by omega) k (by omega), bsome, spec_vals_at l[i].f1 (by omega) (M + 1) (fun v hv => by have := c2 v hv; omega) (by omega) k (by omega), bsome]
   rw [cellsOk_cons]
   generalize hR : cellsOk (some l[i].f0) (l.drop (i + 1)) = R
   unfold cellOk
   cases hp : plOk l[i].f0
   ·simp
   by_cases hlen : l[i].f1.length ≤ 3
   ·rw [if_pos rfl, if_neg (by omega)]
    cases hv : vsOk l[i].f1
    ·simp
    rw [if_pos rfl]
    by_cases hi : i = 0
    ·subst hi
     rw [if_neg (by omega), h0 rfl]; simp [hlen]
    ·rw [if_pos (by omega), wprev (by omega) (by omega), if_pos (by omega), if_pos (by omega), rd_cell (by omega), h1 (by omega) (by omega)]
     have hlt : i - 1 < l.length := by omega
     obtain ⟨d0, d1, d2⟩ := hc _ (List.getElem_mem hlt)
     rw [spec_cmp_at _ _ (by omega) (by omega) k (by omega), bsome]
     by_cases hcm : cmp l[i - 1].f0 l[i].f0 < 0
     ·rw [if_neg (by omega)]; simp [hlen, hcm]
     ·rw [if_pos (by omega)]; simp [hcm]
   ·rw [if_pos rfl, if_pos (by omega)]; simp [hlen]) l.length 0 k (by omega) (by omega) (by omega) none (fun _ => rfl) (fun h _ => by omega)
 unfold spec_validStore.f storeOk
 by_cases h : (l.length : Int) > 200
 ·rw [if_pos h, show decide (l.length ≤ 200) = false from decide_eq_false (by omega), Bool.and_false]
 ·rw [if_neg h, show decide (l.length ≤ 200) = true from decide_eq_true (by omega), Bool.and_true]; exact key
theorem impl_store_at (l : List S89) (hl : l.length ≤ 4611686018427387904) (M : Nat) (hM : M ≤ 1073741824) (hc : ∀ c ∈ l, CB M c) (k : Nat) (hk : l.length + (3 * M + 10) < k) : impl_StoreOk.f k l = some (storeOk l) := by
 have key := loop_s (n := l.length) (m := 3 * M + 10) (s := 1) (by omega) (fun k i => ∀ p, (i = 0 → p = none) → (∀ (h : 0 < i) (h' : i - 1 < l.length), p = some l[i - 1].f0) → impl_StoreOk.l0 k l l (l.length : Int) (i : Int) = some (cellsOk p (l.drop i) && decide (l.length ≤ 200)))
  (fun k _ p _ _ => by
   simp only [impl_StoreOk.l0]; rw [if_neg (by omega), List.drop_length]
   unfold cellsOk; rw [Bool.true_and]; congr 1; exact decide_eq_decide.mpr (by omega))
  (fun k i h hk ih p h0 h1 => by
   obtain ⟨c0, c1, c2⟩ := hc _ (List.getElem_mem h)
   have ih' := ih (some l[i].f0) (by omega) (fun _ _ => by simp)
   simp only [impl_StoreOk.l0]
   rw [if_pos (by omega), if_pos (by omega), if_pos (by omega), rd_cell h, drop_cons h, wnext h hl, ih']
   rw [impl_place_at _ (by omega) k (by omega), bsome, impl_vals_at l[i].f1 (by omega) (M + 1) (fun v hv => by have := c2 v hv; omega) (by omega) k (by omega), bsome]
   rw [cellsOk_cons]
   generalize hR : cellsOk (some l[i].f0) (l.drop (i + 1)) = R
   unfold cellOk
   cases hp : plOk l[i].f0
   ·simp
   by_cases hlen : l[i].f1.length ≤ 3
   ·rw [if_pos rfl, if_neg (by omega)]
    cases hv : vsOk l[i].f1
    ·simp
    rw [if_pos rfl]
    by_cases hi : i = 0
    ·subst hi
     rw [if_neg (by omega), h0 rfl]; simp [hlen]
    ·rw [if_pos (by omega), wprev (by omega) (by omega), if_pos (by omega), if_pos (by omega), rd_cell (by omega), h1 (by omega) (by omega)]
     have hlt : i - 1 < l.length := by omega
     obtain ⟨d0, d1, d2⟩ := hc _ (List.getElem_mem hlt)
     rw [impl_cmp_at _ _ (by omega) k (by omega), bsome]
     by_cases hcm : cmp l[i - 1].f0 l[i].f0 < 0
     ·rw [if_neg (by omega)]; simp [hlen, hcm]
     ·rw [if_pos (by omega)]; simp [hcm]
   ·rw [if_pos rfl, if_pos (by omega)]; simp [hlen]) l.length 0 k (by omega) (by omega) (by omega) none (fun _ => rfl) (fun h _ => by omega)
 unfold impl_StoreOk.f storeOk
 exact key
theorem cmp_lt_trans {a b c : List S92} (h1 : cmp a b < 0) (h2 : cmp b c < 0) : cmp a c < 0 := by
 induction a generalizing b c with
 | nil => cases c with
  | nil => cases b <;> simp [cmp] at h2
  | cons z zs => simp [cmp]
 | cons x xs ih => cases b with
  | nil => simp [cmp] at h1
  | cons y ys => cases c with
   | nil => simp [cmp] at h2
   | cons z zs =>
    unfold cmp at h1 h2 ⊢
    by_cases e1 : x.f0 = y.f0 ∧ x.f1 = y.f1
    ·rw [if_pos e1] at h1
     by_cases e2 : y.f0 = z.f0 ∧ y.f1 = z.f1
     ·rw [if_pos e2] at h2
      rw [if_pos (by omega)]; exact ih h1 h2
     ·rw [if_neg e2] at h2
      by_cases l2 : y.f0 < z.f0 ∨ (y.f0 = z.f0 ∧ y.f1 < z.f1)
      ·rw [if_neg (by omega), if_pos (by omega)]; decide
      ·rw [if_neg l2] at h2; omega
    ·rw [if_neg e1] at h1
     by_cases l1 : x.f0 < y.f0 ∨ (x.f0 = y.f0 ∧ x.f1 < y.f1)
     ·by_cases e2 : y.f0 = z.f0 ∧ y.f1 = z.f1
      ·rw [if_neg (by omega), if_pos (by omega)]; decide
      ·rw [if_neg e2] at h2
       by_cases l2 : y.f0 < z.f0 ∨ (y.f0 = z.f0 ∧ y.f1 < z.f1)
       ·rw [if_neg (by omega), if_pos (by omega)]; decide
       ·rw [if_neg l2] at h2; omega
     ·rw [if_neg l1] at h1; omega
theorem cellsOk_after {q : List S92} {l : List S89} (h : cellsOk (some q) l = true) : ∀ c ∈ l, cmp q c.f0 < 0 := by
 induction l generalizing q with
 | nil => intro c hc; cases hc
 | cons d ds ih =>
  intro c hc
  rw [cellsOk_cons] at h
  simp only [Bool.and_eq_true, decide_eq_true_eq] at h
  rcases List.mem_cons.1 hc with rfl | hc
  ·exact h.1.2
  ·exact cmp_lt_trans h.1.2 (ih h.2 c hc)
def stand (w : List S92) : List S89 → Nat → Option Nat
 | [], _ => none
 | c :: cs, i => if cmp c.f0 w = 0 then some i else stand w cs (i + 1)
def lowAt (w : List S92) : List S89 → Nat → Nat × Bool
 | [], i => (i, false)
 | c :: cs, i => if cmp c.f0 w < 0 then lowAt w cs (i + 1) else (i, cmp c.f0 w == 0)
theorem stand_none {w : List S92} {l : List S89} (i : Nat) (h : ∀ c ∈ l, cmp c.f0 w ≠ 0) : stand w l i = none := by
 induction l generalizing i with
 | nil => rfl
 | cons c cs ih => unfold stand; rw [if_neg (h c (by simp))]; exact ih (i + 1) (fun d hd => h d (by simp [hd]))
theorem stand_cons (w : List S92) (c : S89) (cs : List S89) (i : Nat) : stand w (c :: cs) i = if cmp c.f0 w = 0 then some i else stand w cs (i + 1) := rfl
theorem lowAt_cons (w : List S92) (c : S89) (cs : List S89) (i : Nat) : lowAt w (c :: cs) i = if cmp c.f0 w < 0 then lowAt w cs (i + 1) else (i, cmp c.f0 w == 0) := rfl
theorem stand_low {w : List S92} {l : List S89} {p : Option (List S92)} (h : cellsOk p l = true) (i : Nat) : stand w l i = if (lowAt w l i).2 = true then some (lowAt w l i).1 else none := by
 induction l generalizing i p with
 | nil => rfl
 | cons c cs ih =>
  rw [cellsOk_cons, Bool.and_eq_true] at h
  rcases cmp_three c.f0 w with e | e | e
  ·have l1 : lowAt w (c :: cs) i = lowAt w cs (i + 1) := by rw [lowAt_cons, if_pos (show cmp c.f0 w < 0 by omega)]
   have l2 : stand w (c :: cs) i = stand w cs (i + 1) := by rw [stand_cons, if_neg (show ¬ cmp c.f0 w = 0 by omega)]
   rw [l1, l2]; exact ih h.2 (i + 1)
  ·have l1 : lowAt w (c :: cs) i = (i, true) := by rw [lowAt_cons, if_neg (show ¬ cmp c.f0 w < 0 by omega), e]; rfl
   have l2 : stand w (c :: cs) i = some i := by rw [stand_cons, if_pos e]
   rw [l1, l2]; rfl
  ·have l1 : lowAt w (c :: cs) i = (i, false) := by rw [lowAt_cons, if_neg (show ¬ cmp c.f0 w < 0 by omega), e]; rfl
   have l2 : stand w (c :: cs) i = stand w cs (i + 1) := by rw [stand_cons, if_neg (show ¬ cmp c.f0 w = 0 by omega)]
   rw [l1, l2, stand_none]
   ·rfl
   intro d hd he
   have h1 := cellsOk_after h.2 d hd
   rw [cmp_zero he] at h1; omega
theorem lowAt_in (w : List S92) (l : List S89) (i : Nat) : i ≤ (lowAt w l i).1 ∧ (lowAt w l i).1 ≤ i + l.length ∧ ((lowAt w l i).2 = true → (lowAt w l i).1 < i + l.length) := by
 induction l generalizing i with
 | nil => exact ⟨Nat.le_refl i, Nat.le_refl i, fun h => by cases h⟩
 | cons c cs ih =>
  unfold lowAt
  split
  ·have := ih (i + 1); rw [List.length_cons]; exact ⟨by omega, by omega, fun h => by have := this.2.2 h; omega⟩
  ·rw [List.length_cons]; exact ⟨by simp, by simp, fun _ => by simp⟩
theorem spec_cellAt_at (l : List S89) (w : List S92) (hl : l.length ≤ 1048576) (hb : ∀ c ∈ l, CB 1048576 c) (hw : w.length ≤ 2097152) (k : Nat) (hk : 8388608 < k) : spec_cellAt.f k l w = some (((lowAt w l 0).1 : Int), (lowAt w l 0).2) := by
 have := loop_s (n := l.length) (m := 6291500) (s := 1) (by omega) (fun k i => spec_cellAt.l0 k l w (i : Int) = some (((lowAt w (l.drop i) i).1 : Int), (lowAt w (l.drop i) i).2))
  (fun k _ => by simp only [spec_cellAt.l0]; rw [if_neg (by omega), List.drop_length]; rfl)
  (fun k i h hk ih => by
   obtain ⟨c0, c1, c2⟩ := hb _ (List.getElem_mem h)
   simp only [spec_cellAt.l0]
   rw [if_pos (by omega), if_pos (by omega), rd_cell h, wnext h (by omega), drop_cons h, ih, spec_cmp_at _ _ (by omega) (by omega) k (by omega), bsome, bsome]
   conv => rhs; unfold lowAt
   by_cases e : cmp l[i].f0 w < 0
   ·rw [if_pos e, if_pos e]
   ·rw [if_neg e, if_neg e]) l.length 0 k (by omega) (by omega) (by omega)
 unfold spec_cellAt.f
 exact this
theorem cellsOk_mem {p : Option (List S92)} {l : List S89} (h : cellsOk p l = true) : ∀ c ∈ l, cellOk c = true := by
 induction l generalizing p with
 | nil => intro c hc; cases hc
 | cons d ds ih =>
  intro c hc
  rw [cellsOk_cons, Bool.and_eq_true, Bool.and_eq_true] at h
  rcases List.mem_cons.1 hc with rfl | hc
  ·exact h.1.1
  ·exact ih h.2 c hc
theorem cellsOk_iff (p : Option (List S92)) (l : List S89) : cellsOk p l = true ↔ (∀ c ∈ l, cellOk c = true) ∧ l.Pairwise (fun a b => cmp a.f0 b.f0 < 0) ∧ (∀ q, p = some q → ∀ c ∈ l, cmp q c.f0 < 0) := by
 constructor
 ·intro h
  refine ⟨cellsOk_mem h, ?_, fun q hq => by subst hq; exact cellsOk_after h⟩
  induction l generalizing p with
  | nil => exact List.Pairwise.nil
  | cons c cs ih =>
   rw [cellsOk_cons, Bool.and_eq_true] at h
   exact List.Pairwise.cons (cellsOk_after h.2) (ih _ h.2)
 ·induction l generalizing p with
  | nil => intro _; rfl
  | cons c cs ih =>
   rintro ⟨h1, h2, h3⟩
   obtain ⟨h4, h5⟩ := List.pairwise_cons.1 h2
   rw [cellsOk_cons, h1 c (by simp), ih (some c.f0) ⟨fun d hd => h1 d (by simp [hd]), h5, fun q hq => by cases hq; exact h4⟩]
   cases p with
   | none => rfl
   | some q => simp [h3 q rfl c (by simp)]
theorem storeOk_iff (l : List S89) : storeOk l = true ↔ (∀ c ∈ l, cellOk c = true) ∧ l.Pairwise (fun a b => cmp a.f0 b.f0 < 0) ∧ l.length ≤ 200 := by
 unfold storeOk
 rw [Bool.and_eq_true, cellsOk_iff, decide_eq_true_eq]
 exact ⟨fun h => ⟨h.1.1, h.1.2.1, h.2⟩, fun h => ⟨⟨h.1, h.2.1, fun q hq => by cases hq⟩, h.2.2⟩⟩
def isAt (w : List S92) (c : S89) : Bool := cmp c.f0 w == 0
theorem isAt_iff {w : List S92} {c : S89} : isAt w c = true ↔ cmp c.f0 w = 0 := by unfold isAt; exact beq_iff_eq
theorem stand_find (w : List S92) (l : List S89) (i : Nat) : (stand w l i = none ∧ l.find? (isAt w) = none) ∨ (∃ j, ∃ h : j < l.length, stand w l i = some (i + j) ∧ l.find? (isAt w) = some l[j]) := by
 induction l generalizing i with
 | nil => exact .inl ⟨rfl, rfl⟩
 | cons c cs ih =>
  unfold stand
  by_cases h : cmp c.f0 w = 0
  ·rw [if_pos h]; exact .inr ⟨0, by simp, by simp, by simp [isAt, h]⟩
  ·rw [if_neg h]
   have hn : isAt w c = false := by unfold isAt; exact beq_eq_false_iff_ne.mpr h
   rcases ih (i + 1) with ⟨h1, h2⟩ | ⟨j, hj, h1, h2⟩
   ·exact .inl ⟨h1, by rw [List.find?_cons, hn]; exact h2⟩
   ·exact .inr ⟨j + 1, by simp; omega, by rw [h1]; congr 1; omega, by rw [List.find?_cons, hn]; simpa using h2⟩
def setS (w : List S92) (v : List S99) : List S89 → List S89
 | [] => [⟨w, v⟩]
 | c :: cs => if cmp w c.f0 = 0 then ⟨w, v⟩ :: cs else if cmp w c.f0 < 0 then ⟨w, v⟩ :: c :: cs else c :: setS w v cs
theorem setS_cons (w : List S92) (v : List S99) (c : S89) (cs : List S89) : setS w v (c :: cs) = if cmp w c.f0 = 0 then ⟨w, v⟩ :: cs else if cmp w c.f0 < 0 then ⟨w, v⟩ :: c :: cs else c :: setS w v cs := rfl
theorem setS_low (w : List S92) (v : List S99) (l : List S89) (i : Nat) : l.take ((lowAt w l i).1 - i) ++ ((⟨w, v⟩ : S89) :: l.drop ((if (lowAt w l i).2 = true then (lowAt w l i).1 + 1 else (lowAt w l i).1) - i)) = setS w v l := by
 induction l generalizing i with
 | nil => simp [lowAt, setS]
 | cons c cs ih =>
  have hn := cmp_neg c.f0 w
  by_cases h : cmp c.f0 w < 0
  ·have e : lowAt w (c :: cs) i = lowAt w cs (i + 1) := by rw [lowAt_cons, if_pos h]
   have e0 : setS w v (c :: cs) = c :: setS w v cs := by rw [setS_cons, if_neg (show ¬ cmp w c.f0 = 0 by omega), if_neg (show ¬ cmp w c.f0 < 0 by omega)]
   rw [e, e0, ← ih (i + 1)]
   obtain ⟨h2, -, -⟩ := lowAt_in w cs (i + 1)
   generalize lowAt w cs (i + 1) = p at *
   obtain ⟨a, b⟩ := p
   simp only at h2 ⊢
   rw [show a - i = (a - (i + 1)) + 1 by omega, List.take_succ_cons]
   cases b
   ·rw [if_neg (show ¬ (false = true) by decide), show a - i = (a - (i + 1)) + 1 by omega, List.drop_succ_cons, List.cons_append]
   ·rw [if_pos (show true = true from rfl), show a + 1 - i = (a + 1 - (i + 1)) + 1 by omega, List.drop_succ_cons, List.cons_append]
  ·by_cases h0 : cmp c.f0 w = 0
   ·have e : lowAt w (c :: cs) i = (i, true) := by rw [lowAt_cons, if_neg h, h0]; rfl
    have e0 : setS w v (c :: cs) = ⟨w, v⟩ :: cs := by rw [setS_cons, if_pos (show cmp w c.f0 = 0 by omega)]
    rw [e, e0]; simp
   ·have e : lowAt w (c :: cs) i = (i, false) := by rw [lowAt_cons, if_neg h, beq_eq_false_iff_ne.mpr h0]
    have e0 : setS w v (c :: cs) = ⟨w, v⟩ :: c :: cs := by rw [setS_cons, if_neg (show ¬ cmp w c.f0 = 0 by omega), if_pos (show cmp w c.f0 < 0 by omega)]
    rw [e, e0]; simp
theorem setS_mem {w : List S92} {v : List S99} {l : List S89} {c : S89} (h : c ∈ setS w v l) : c = ⟨w, v⟩ ∨ c ∈ l := by
 induction l with
 | nil => simpa [setS] using h
 | cons d ds ih =>
  unfold setS at h
  split at h
  ·rcases List.mem_cons.1 h with h | h
   ·exact .inl h
   ·exact .inr (by simp [h])
  ·split at h
   ·rcases List.mem_cons.1 h with h | h
    ·exact .inl h
    ·exact .inr h
   ·rcases List.mem_cons.1 h with h | h
    ·exact .inr (by simp [h])
    ·rcases ih h with h | h
     ·exact .inl h
     ·exact .inr (by simp [h])
theorem setS_length (w : List S92) (v : List S99) (l : List S89) : (setS w v l).length ≤ l.length + 1 := by
 induction l with
 | nil => simp [setS]
 | cons d ds ih =>
  rw [setS_cons]
  split
  ·simp
  ·split
   ·simp
   ·simp; omega
theorem setS_sorted {w : List S92} {v : List S99} {l : List S89} (h : l.Pairwise (fun a b => cmp a.f0 b.f0 < 0)) : (setS w v l).Pairwise (fun a b => cmp a.f0 b.f0 < 0) := by
 induction l with
 | nil => unfold setS; exact List.pairwise_singleton _ _
 | cons d ds ih =>
  obtain ⟨h1, h2⟩ := List.pairwise_cons.1 h
  have hn := cmp_neg d.f0 w
  unfold setS
  by_cases e : cmp w d.f0 = 0
  ·rw [if_pos e]
   refine List.Pairwise.cons (fun c hc => ?_) h2
   have := h1 c hc; rw [← cmp_zero e] at this; exact this
  ·rw [if_neg e]
   by_cases e2 : cmp w d.f0 < 0
   ·rw [if_pos e2]
    refine List.Pairwise.cons (fun c hc => ?_) h
    rcases List.mem_cons.1 hc with rfl | hc
    ·exact e2
    ·exact cmp_lt_trans e2 (h1 c hc)
   ·rw [if_neg e2]
    refine List.Pairwise.cons (fun c hc => ?_) (ih h2)
    rcases setS_mem hc with rfl | hc
    ·show cmp d.f0 w < 0
     rcases cmp_three w d.f0 with q | q | q <;> omega
    ·exact h1 c hc
theorem find_setS (w : List S92) (v : List S99) (l : List S89) : (setS w v l).find? (isAt w) = some ⟨w, v⟩ := by
 have hw : isAt w ⟨w, v⟩ = true := isAt_iff.mpr (cmp_refl w)
 induction l with
 | nil => simp [setS, hw]
 | cons d ds ih =>
  have hn := cmp_neg d.f0 w
  unfold setS
  by_cases e : cmp w d.f0 = 0
  ·rw [if_pos e, List.find?_cons, hw]
  ·rw [if_neg e]
   by_cases e2 : cmp w d.f0 < 0
   ·rw [if_pos e2, List.find?_cons, hw]
   ·rw [if_neg e2, List.find?_cons, show isAt w d = false from by unfold isAt; exact beq_eq_false_iff_ne.mpr (by omega)]; exact ih
theorem find_self {l : List S89} (h : l.Pairwise (fun a b => cmp a.f0 b.f0 < 0)) {c : S89} (hc : c ∈ l) : l.find? (isAt c.f0) = some c := by
 induction l with
 | nil => cases hc
 | cons d ds ih =>
  obtain ⟨h1, h2⟩ := List.pairwise_cons.1 h
  rw [List.find?_cons]
  rcases List.mem_cons.1 hc with rfl | hc
  ·rw [show isAt c.f0 c = true from isAt_iff.mpr (cmp_refl _)]
  ·rw [show isAt c.f0 d = false from by unfold isAt; exact beq_eq_false_iff_ne.mpr (by have := h1 c hc; omega)]; exact ih h2 hc
def notAt (w : List S92) (c : S89) : Bool := !(isAt w c)
theorem filter_setS (w : List S92) (v : List S99) (l : List S89) : (setS w v l).filter (notAt w) = l.filter (notAt w) := by
 have hw : notAt w ⟨w, v⟩ = false := by unfold notAt; rw [isAt_iff.mpr (cmp_refl w)]; rfl
 induction l with
 | nil => simp [setS, hw]
 | cons d ds ih =>
  have hn := cmp_neg d.f0 w
  unfold setS
  by_cases e : cmp w d.f0 = 0
  ·rw [if_pos e, List.filter_cons, hw, List.filter_cons, show notAt w d = false from by unfold notAt; rw [isAt_iff.mpr (by omega)]; rfl]; rfl
  ·rw [if_neg e]
   by_cases e2 : cmp w d.f0 < 0
   ·rw [if_pos e2, List.filter_cons, hw]; rfl
   ·rw [if_neg e2, List.filter_cons, List.filter_cons, ih]
theorem setS_same {l : List S89} (h : l.Pairwise (fun a b => cmp a.f0 b.f0 < 0)) {w : List S92} {c : S89} (hc : l.find? (isAt w) = some c) : setS w c.f1 l = l := by
 induction l with
 | nil => cases hc
 | cons d ds ih =>
  obtain ⟨h1, h2⟩ := List.pairwise_cons.1 h
  have hn := cmp_neg d.f0 w
  rw [List.find?_cons] at hc
  unfold setS
  by_cases e : cmp d.f0 w = 0
  ·rw [isAt_iff.mpr e] at hc
   cases hc
   rw [if_pos (by omega), ← cmp_zero e]
  ·rw [show isAt w d = false from by unfold isAt; exact beq_eq_false_iff_ne.mpr e] at hc
   have hm : c ∈ ds := List.mem_of_find?_eq_some hc
   have he : cmp c.f0 w = 0 := isAt_iff.1 (List.find?_some hc)
   have := h1 c hm
   rw [cmp_zero he] at this
   rw [if_neg (by omega), if_neg (by omega), ih h2 hc]
theorem find_mem {l : List S89} {w : List S92} {c : S89} (hc : l.find? (isAt w) = some c) : c ∈ l ∧ c.f0 = w := ⟨List.mem_of_find?_eq_some hc, cmp_zero (isAt_iff.1 (List.find?_some hc))⟩
theorem cellOk_new {w : List S92} {v : List S99} (h1 : plOk w = true) (h2 : v.length ≤ 3) (h3 : vsOk v = true) : cellOk ⟨w, v⟩ = true := by
 unfold cellOk; simp [h1, h2, h3]
theorem storeOk_set {w : List S92} {v : List S99} {l : List S89} (h : storeOk l = true) (h1 : plOk w = true) (h2 : v.length ≤ 3) (h3 : vsOk v = true) (h4 : (setS w v l).length ≤ 200) : storeOk (setS w v l) = true := by
 rw [storeOk_iff] at h ⊢
 refine ⟨fun c hc => ?_, setS_sorted h.2.1, h4⟩
 rcases setS_mem hc with rfl | hc
 ·exact cellOk_new h1 h2 h3
 ·exact h.1 c hc
theorem nil_app {α : Type} (l : List α) : ([] : List α) ++ l = l := rfl
theorem spec_copyCell_at (a : List S92) (b : List S99) (ha : a.length ≤ 1048576) (hb : b.length ≤ 1048576) : spec_copyCell.f a b = some (a, b) := by
 unfold spec_copyCell.f
 rw [bsome, if_pos (by simp only [List.length_nil]; omega), bsome, if_pos (by simp only [List.length_nil]; omega)]; rfl
theorem app_loop {α β : Type} (xs : List α) (F : Nat → List β → Int → Option (List β)) (c : α → List β) (m s : Nat) (hs : 0 < s)
  (hend : ∀ k acc, m ≤ k → F (k + 1) acc (xs.length : Int) = some acc)
  (hstep : ∀ k (acc : List β) i (h : i < xs.length), m ≤ k → acc.length ≤ ((xs.take i).map (fun x => (c x).length)).sum → F (k + s) acc (i : Int) = F k (acc ++ c xs[i]) ((i + 1 : Nat) : Int)) :
  ∀ k, xs.length * s + m < k → F k [] 0 = some (xs.flatMap c) := by
 intro k hk
 have := loop_s (n := xs.length) (m := m) (s := s) hs (fun k i => ∀ p : List β, p.length ≤ ((xs.take i).map (fun x => (c x).length)).sum → F k p (i : Int) = some (p ++ (xs.drop i).flatMap c))
  (fun k hm p hp => by rw [hend k _ hm]; simp)
  (fun k i h hm ih p hp => by
   rw [hstep k _ i h hm hp, ih (p ++ c xs[i]) (by rw [List.length_append, List.take_succ_eq_append_getElem h, List.map_append, List.sum_append]; simp only [List.map_cons, List.map_nil, List.sum_cons, List.sum_nil]; omega), drop_cons h, List.flatMap_cons, List.append_assoc]) xs.length 0 k (by omega) (by omega) hk [] (by simp)
 simpa using this
theorem sum_le {α : Type} (xs : List α) (f : α → Nat) (h : ∀ x, f x ≤ 1) : (xs.map f).sum ≤ xs.length := by
 induction xs with
 | nil => simp
 | cons x xs ih => rw [List.map_cons, List.sum_cons, List.length_cons]; have := h x; omega
theorem take_sum {α : Type} (xs : List α) (f : α → Nat) (h : ∀ x, f x ≤ 1) (i : Nat) : ((xs.take i).map f).sum ≤ xs.length := Nat.le_trans (sum_le _ f h) (by rw [List.length_take]; omega)
theorem flat_one {α : Type} (xs : List α) : xs.flatMap (fun x => [x]) = xs := by induction xs with
 | nil => rfl
 | cons x xs ih => rw [List.flatMap_cons, ih]; rfl
theorem flat_filter {α : Type} (xs : List α) (p : α → Bool) : xs.flatMap (fun x => if p x = true then [x] else []) = xs.filter p := by induction xs with
 | nil => rfl
 | cons x xs ih => rw [List.flatMap_cons, ih, List.filter_cons]; split <;> simp
theorem spec_copyStore_at (l : List S89) (hl : l.length ≤ 1048576) (hc : ∀ c ∈ l, CB 1048576 c) (k : Nat) (hk : l.length < k) : spec_copyStore.f k l = some l := by
 unfold spec_copyStore.f
 have := app_loop l (fun k acc i => spec_copyStore.l0 k l acc i) (fun x => [x]) 0 1 (by omega)
  (fun k acc _ => by simp only [spec_copyStore.l0]; rw [if_neg (by omega)])
  (fun k acc i h _ ha => by
   have := take_sum l (fun _ => 1) (by simp) i
   obtain ⟨c0, c1, c2⟩ := hc _ (List.getElem_mem h)
   simp only [List.length_singleton] at ha
   simp only [spec_copyStore.l0]
   rw [if_pos (by omega), if_pos (by omega), rd_cell h, spec_copyCell_at _ _ (by omega) (by omega), bsome, if_pos (by omega), wnext h (by omega)]) k (by omega)
 rw [flat_one] at this; exact this
theorem spec_put_at (l : List S89) (w : List S92) (v : List S99) (hl : l.length ≤ 1000000) (hc : ∀ c ∈ l, CB 1048576 c) (hw : w.length ≤ 1048576) (hv : v.length ≤ 1048576) (k : Nat) (hk : 8388608 < k) : spec_put.f k l w v = some (setS w v l) := by
 unfold spec_put.f
 rw [spec_cellAt_at l w (by omega) hc (by omega) k (by omega), bsome]
 have hS := setS_low w v l 0
 obtain ⟨h2, h3, h4⟩ := lowAt_in w l 0
 generalize lowAt w l 0 = p at *
 obtain ⟨i, ok⟩ := p
 simp only at h2 h3 h4 hS ⊢
 have hi : i ≤ l.length := by omega
 rw [if_pos (by omega), if_pos (by omega)]
 have e1 : ((i : Int)).toNat = i := by omega
 rw [e1, spec_copyStore_at (l.take i) (by rw [List.length_take]; omega) (fun c hq => hc c (List.mem_of_mem_take hq)) k (by rw [List.length_take]; omega), bsome, spec_copyCell_at w v hw hv, bsome, if_pos (by rw [List.length_take]; omega), bsome]
 have hlen : (l.take i ++ [(⟨w, v⟩ : S89)]).length ≤ 1048577 := by rw [List.length_append, List.length_take]; simp; omega
 have hap : ∀ j, l.take i ++ [(⟨w, v⟩ : S89)] ++ l.drop j = l.take i ++ ((⟨w, v⟩ : S89) :: l.drop j) := fun j => by simp
 cases ok
 ·rw [if_neg (by simp)]
  rw [spec_copyStore_at (l.drop i) (by rw [List.length_drop]; omega) (fun c hq => hc c (List.mem_of_mem_drop hq)) k (by rw [List.length_drop]; omega), bsome, if_pos (by show (l.take i ++ [(⟨w, v⟩ : S89)]).length + _ < _; rw [List.length_drop]; omega), hap]
  rw [← hS]; simp
 ·have h5 : i < l.length := by have := h4 rfl; omega
  rw [if_pos rfl, wnext h5 (by omega), if_pos (by omega), if_pos (by omega), show (((i + 1 : Nat) : Int)).toNat = i + 1 by omega]
  rw [spec_copyStore_at (l.drop (i + 1)) (by rw [List.length_drop]; omega) (fun c hq => hc c (List.mem_of_mem_drop hq)) k (by rw [List.length_drop]; omega), bsome, if_pos (by show (l.take i ++ [(⟨w, v⟩ : S89)]).length + _ < _; rw [List.length_drop]; omega), hap]
  rw [← hS]; simp
theorem impl_cellCopy_at (a : List S92) (b : List S99) (ha : a.length ≤ 1048576) (hb : b.length ≤ 1048576) : impl_cellCopy.f a b = some (a, b) := by
 unfold impl_cellCopy.f impl_placeCopy.f impl_valsCopy.f
 rw [if_pos (by simp only [List.length_nil]; omega), bsome, if_pos (by simp only [List.length_nil]; omega), bsome]; rfl
theorem impl_copies {a : List S92} {b : List S99} (ha : a.length ≤ 1048576) (hb : b.length ≤ 1048576) : impl_placeCopy.f a = some a ∧ impl_valsCopy.f b = some b := by
 unfold impl_placeCopy.f impl_valsCopy.f
 rw [if_pos (by simp only [List.length_nil]; omega), if_pos (by simp only [List.length_nil]; omega)]; exact ⟨rfl, rfl⟩
theorem impl_set_at (l : List S89) (w : List S92) (v : List S99) (hl : l.length ≤ 1000000) (hc : ∀ c ∈ l, CB 1048576 c) (hw : w.length ≤ 1048576) (hv : v.length ≤ 1048576) (k : Nat) (hk : 8388608 < k) : impl_storeSet.f k l w v = some (setS w v l) := by
 obtain ⟨ew, ev⟩ := impl_copies hw hv
 have key := loop_s (n := l.length) (m := 3145740) (s := 2) (by omega) (fun k i => (∀ (acc : List S89), acc.length ≤ i → impl_storeSet.l0 k w v acc false l (l.length : Int) (i : Int) = some (acc ++ setS w v (l.drop i))) ∧ (∀ (acc : List S89), acc.length ≤ i + 1 → impl_storeSet.l0 k w v acc true l (l.length : Int) (i : Int) = some (acc ++ l.drop i)))
  (fun k _ => by
   simp only [impl_storeSet.l0]
   rw [List.drop_length]
   refine ⟨fun acc ha => ?_, fun acc ha => ?_⟩ <;> rw [if_neg (show ¬ ((l.length : Int) < (l.length : Int)) by omega)]
   ·rw [if_neg (show ¬ (false = true) by decide), ew, bsome, ev, bsome, if_pos (by omega)]; rfl
   ·rw [if_pos trivial, List.append_nil])
  (fun k i h hk ih => by
   obtain ⟨ih0, ih1⟩ := ih
   obtain ⟨c0, c1, c2⟩ := hc _ (List.getElem_mem h)
   have ecc := impl_cellCopy_at l[i].f0 l[i].f1 c0 c1
   have e5 : (⟨l[i].f0, l[i].f1⟩ : S89) = l[i] := rfl
   simp only [impl_storeSet.l0, impl_storeSet.j1]
   simp only [if_pos (show (i : Int) < (l.length : Int) by omega), if_pos (show (0 : Int) ≤ (i : Int) by omega)]
   simp only [rd_cell h, impl_cmp_at w l[i].f0 (by omega) (k + 1) (by omega), bsome, ew, ev, ecc, wnext h (show l.length ≤ 4611686018427387904 by omega), drop_cons h]
   simp only [bsome, e5, Bool.not_true, Bool.not_false, ite_self]
   refine ⟨fun acc ha => ?_, fun acc ha => ?_⟩
   ·rw [setS_cons]
    by_cases e0 : cmp w l[i].f0 = 0
    ·rw [if_pos (show cmp w l[i].f0 ≤ 0 by omega), if_pos trivial, if_pos (show acc.length < 2932031007402 by omega), if_pos e0, if_pos e0, ih1 _ (by simp; omega)]; simp
    ·by_cases e1 : cmp w l[i].f0 < 0
     ·rw [if_pos (show cmp w l[i].f0 ≤ 0 by omega), if_pos trivial, if_pos (show acc.length < 2932031007402 by omega), if_neg e0, if_pos (by rw [List.length_append]; simp; omega), if_neg e0, if_pos e1, ih1 _ (by simp; omega)]; simp
     ·rw [if_neg (show ¬ cmp w l[i].f0 ≤ 0 by omega), if_neg (show ¬ (false = true) by decide), if_pos (show acc.length < 2932031007402 by omega), if_neg e0, if_neg e1, ih0 _ (by simp; omega)]; simp
   ·rw [if_neg (show ¬ (false = true) by decide), if_pos (show acc.length < 2932031007402 by omega), ih1 _ (by simp; omega)]; simp) l.length 0 k (by omega) (by omega) (by omega)
 unfold impl_storeSet.f
 have := key.1 [] (by simp)
 simpa using this
def putS (w : List S92) (v : List S99) (l : List S89) : List S89 × Bool :=
 if storeOk l = true ∧ plOk w = true ∧ v.length ≤ 3 ∧ vsOk v = true then (if 200 < (setS w v l).length then ([], false) else (setS w v l, true)) else ([], false)
theorem impl_putS_at (l : List S89) (w : List S92) (v : List S99) (hl : l.length ≤ 1048576) (hc : ∀ c ∈ l, CB 1048576 c) (hw : w.length ≤ 1048576) (hv : v.length ≤ 1048576) (hm : ∀ x ∈ v, x.f2.size < 1048576) (k : Nat) (hk : 8388610 < k) : impl_StorePut.f k l w v = some (putS w v l) := by
 have j0 : ∀ b : Bool, (b = false → storeOk l = true) → impl_StorePut.j0 k l w v b = some (if b = true then ([], false) else if 200 < (setS w v l).length then ([], false) else (setS w v l, true)) := by
  intro b hb
  obtain ⟨k, rfl⟩ : ∃ q, k = q + 1 := ⟨k - 1, by omega⟩
  simp only [impl_StorePut.j0]
  cases b
  ·have h200 := ((storeOk_iff l).1 (hb rfl)).2.2
   rw [if_neg (by decide), if_neg (by decide), impl_set_at l w v (by omega) hc hw hv k (by omega), bsome]
   by_cases h : 200 < (setS w v l).length
   ·rw [if_pos (by omega), if_pos h]
   ·rw [if_neg (by omega), if_neg h]
  ·rfl
 unfold impl_StorePut.f putS
 rw [impl_store_at l (by omega) 1048576 (by omega) hc k (by omega), bsome, impl_place_at w (by omega) k (by omega), bsome, impl_vals_at v (by omega) 1048576 hm (by omega) k (by omega), bsome]
 cases hs : storeOk l
 ·rw [if_neg (by decide), j0 true (by simp)]; simp
 simp only [j0 _ (fun _ => hs)]
 cases hp : plOk w
 ·simp
 ·by_cases h3 : v.length ≤ 3
  ·rw [if_pos rfl, if_pos trivial, if_neg (by omega)]
   cases vsOk v <;> simp [h3]
  ·rw [if_pos rfl, if_pos trivial, if_pos (by omega)]; simp [h3]
theorem spec_putS_at (l : List S89) (w : List S92) (v : List S99) (hl : l.length ≤ 1048576) (hc : ∀ c ∈ l, CB 1048576 c) (hw : w.length ≤ 1048576) (hv : v.length ≤ 1048576) (hm : ∀ x ∈ v, x.f2.size < 1048576) (k : Nat) (hk : 8388610 < k) : spec_StorePut.f k l w v = some (putS w v l) := by
 have j0 : ∀ b : Bool, (b = false → storeOk l = true) → spec_StorePut.j0 k l w v b = some (if b = true then ([], false) else if 200 < (setS w v l).length then ([], false) else (setS w v l, true)) := by
  intro b hb
  obtain ⟨k, rfl⟩ : ∃ q, k = q + 1 := ⟨k - 1, by omega⟩
  simp only [spec_StorePut.j0]
  cases b
  ·have h200 := ((storeOk_iff l).1 (hb rfl)).2.2
   rw [if_neg (by decide), if_neg (by decide), spec_put_at l w v (by omega) hc hw hv k (by omega), bsome]
   by_cases h : 200 < (setS w v l).length
   ·rw [if_pos (by omega), if_pos h]
   ·rw [if_neg (by omega), if_neg h]
  ·rfl
 unfold spec_StorePut.f putS
 rw [spec_store_at l (by omega) 1048576 (by omega) hc k (by omega), bsome, spec_place_at w (by omega) k (by omega), bsome, spec_vals_at v (by omega) 1048576 hm (by omega) k (by omega), bsome]
 cases hs : storeOk l
 ·rw [if_neg (by decide), j0 true (by simp)]; simp
 simp only [j0 _ (fun _ => hs)]
 cases hp : plOk w
 ·simp
 ·by_cases h3 : v.length ≤ 3
  ·rw [if_pos rfl, if_pos trivial, if_neg (by omega)]
   cases vsOk v <;> simp [h3]
  ·rw [if_pos rfl, if_pos trivial, if_pos (by omega)]; simp [h3]
def cSlot (x : S94) : S92 := ⟨x.f0, x.f1⟩
theorem rd_lslot {l : List S94} {i : Nat} (h : i < l.length) : l.drop i = rd_T94 l (i : Int) :: l.drop (i + 1) := drop_at z94 h
theorem set_mid {α : Type} (p : List α) (a b : α) (r : List α) (n : Nat) (h : n = p.length) : (p ++ a :: r).set n b = p ++ b :: r := by subst h; simp
theorem toSlotS_l (l : List S94) (hl : l.length ≤ 4611686018427387904) (z : S92) : ∀ k i, i ≤ l.length → l.length - i < k → ∀ p, p.length = i → laws_toSlotS.l0 k l (p ++ List.replicate (l.length - i) z) (i : Int) = some (p ++ (l.drop i).map cSlot) := by
 refine loop_up (fun k i => ∀ p, p.length = i → laws_toSlotS.l0 k l (p ++ List.replicate (l.length - i) z) (i : Int) = some (p ++ (l.drop i).map cSlot)) ?_ ?_
 ·intro k p hp
  simp only [laws_toSlotS.l0]
  rw [if_neg (by omega)]; simp
 ·intro k i hi ih p hp
  simp only [laws_toSlotS.l0, laws_toSlot.f]
  rw [if_pos (by omega), if_pos (by omega)]
  simp only [Option.bind_some]
  rw [if_pos (by simp; omega), show l.length - i = (l.length - (i + 1)) + 1 by omega, List.replicate_succ, set_mid _ _ _ _ _ (by omega), wnext hi hl]
  have := ih (p ++ [cSlot (rd_T94 l (i : Int))]) (by simp [hp])
  rw [List.append_assoc] at this
  rw [rd_lslot hi, List.map_cons, ← List.singleton_append, ← List.append_assoc p, List.append_assoc p]
  rw [List.append_assoc] at this
  exact this
theorem toSlotS_at (l : List S94) (hl : l.length ≤ 1048576) (k : Nat) (hk : l.length < k) : laws_toSlotS.f k l = some (l.map cSlot) := by
 unfold laws_toSlotS.f
 rw [if_pos (by omega), if_pos (by omega)]
 have := toSlotS_l l (by omega) z92 k 0 (by omega) (by omega) [] rfl
 simpa using this
theorem szSlotS_at (l : List S94) (n : Int) (hn : 0 ≤ n ∧ n ≤ 1048576) (hl : l.length ≤ maxLen) : ∃ r, laws_szSlotS.f l n = some r ∧ (0 ≤ r → r = n - l.length) ∧ r ≤ n := by
 have hm : l.length ≤ 9223372036854775807 := hl
 unfold laws_szSlotS.f
 rw [w64 (by omega) (by omega)]
 by_cases h : n - (l.length : Int) < 0
 ·rw [if_pos h]; exact ⟨_, rfl, by omega, by omega⟩
 ·rw [if_neg h]; exact ⟨_, rfl, by omega, by omega⟩
theorem eqSlot_refl (a b : Int) : laws_eqSlot.f a b a b = some true := by unfold laws_eqSlot.f; simp
theorem eqSlotS_l (l : List S92) (hl : l.length ≤ 4611686018427387904) : ∀ k i, i ≤ l.length → l.length - i < k → laws_eqSlotS.l0 k l l (i : Int) = some true := by
 refine loop_up (fun k i => laws_eqSlotS.l0 k l l (i : Int) = some true) ?_ ?_
 ·intro k
  simp only [laws_eqSlotS.l0]
  rw [if_neg (by omega)]
 ·intro k i hi ih
  simp only [laws_eqSlotS.l0]
  rw [if_pos (by omega), if_pos (by omega), if_pos (by omega), eqSlot_refl]
  simp only [Option.bind_some, wnext hi hl, ih, if_true]
theorem eqSlotS_refl (l : List S92) (hl : l.length ≤ 4611686018427387904) (k : Nat) (hk : l.length < k) : laws_eqSlotS.f k l l = some true := by
 unfold laws_eqSlotS.f
 rw [if_pos rfl]; exact eqSlotS_l l hl k 0 (by omega) (by omega)
def cValue (x : S105) : S99 := ⟨x.f0, x.f1, x.f2⟩
theorem rd_lval {l : List S105} {i : Nat} (h : i < l.length) : rd_T105 l (i : Int) = l[i] := getD_at z105 h
theorem toValueS_at (l : List S105) (hl : l.length ≤ 1048576) (k : Nat) (hk : l.length < k) : laws_toValueS.f k l = some (l.map cValue) := by
 unfold laws_toValueS.f
 rw [if_pos (by omega), if_pos (by omega)]
 exact map_loop l (fun k acc i => laws_toValueS.l0 k l acc i) cValue z99 0 1 (by omega)
  (fun k acc _ => by simp only [laws_toValueS.l0]; rw [if_neg (by omega)])
  (fun k acc i h _ ha => by
   simp only [laws_toValueS.l0]
   rw [if_pos (by omega), if_pos (by omega), rd_lval h]
   simp only [laws_toValue.f, bsome]
   rw [if_pos (by omega), wnext h (by omega)]; rfl) k (by omega)
theorem szval_at (a b : Int) (s : ByteArray) (n : Int) (hn : 0 ≤ n ∧ n ≤ 1048576) (hs : s.size ≤ maxLen) : ∃ r, laws_szValue.f a b s n = some r ∧ (0 ≤ r → r = n - s.size) ∧ r ≤ n := by
 have hm : s.size ≤ 9223372036854775807 := hs
 unfold laws_szValue.f
 rw [w64 (by omega) (by omega)]
 by_cases h : n - (s.size : Int) < 0
 ·rw [if_pos h]; exact ⟨_, rfl, by omega, by omega⟩
 ·rw [if_neg h]; exact ⟨_, rfl, by omega, by omega⟩
def szVals (l : List S105) : Nat := l.length + (l.map (fun x => x.f2.size)).sum
theorem szValueS_at (l : List S105) (hl : l.length ≤ maxLen) (hg : ∀ x ∈ l, x.f2.size ≤ maxLen) (n : Int) (hn : 0 ≤ n ∧ n ≤ 1048576) (k : Nat) (hk : 1048578 < k) : ∃ r, laws_szValueS.f k l n = some r ∧ r ≤ n ∧ (0 ≤ r → r = n - szVals l) := by
 have hm : l.length ≤ 9223372036854775807 := hl
 unfold laws_szValueS.f
 rw [w64 (by omega) (by omega)]
 by_cases h : n - (l.length : Int) < 0
 ·rw [if_pos h]; exact ⟨_, rfl, by omega, by omega⟩
 ·rw [if_neg h]
  obtain ⟨r, h1, h2, h3⟩ := sz_loop l (fun k left i => laws_szValueS.l0 k l left i) (fun x => x.f2.size) 0 1 (by omega)
   (fun k left _ => by simp only [laws_szValueS.l0]; rw [if_neg (by omega)])
   (fun k left i h _ h0 h1 => by
    obtain ⟨t, t1, t2, t3⟩ := szval_at l[i].f0 l[i].f1 l[i].f2 left ⟨h0, h1⟩ (hg _ (List.getElem_mem h))
    simp only [laws_szValueS.l0]
    rw [if_pos (by omega), if_pos (by omega), rd_lval h, t1, bsome]
    exact ⟨t, t3, t2, by rw [wnext h (by omega)]⟩) k (n - (l.length : Int)) (by omega) (by omega) (by omega)
  refine ⟨r, h1, by omega, fun hr => ?_⟩
  have := h3 hr
  unfold szVals
  omega
def cCell (x : S84) : S89 := ⟨x.f0.map cSlot, x.f1.map cValue⟩
theorem rd_lcell {l : List S84} {i : Nat} (h : i < l.length) : rd_T84 l (i : Int) = l[i] := getD_at z84 h
def szCell (x : S84) : Nat := x.f0.length + szVals x.f1
def szCells (l : List S84) : Nat := l.length + (l.map szCell).sum
theorem toCellS_at (l : List S84) (hl : szCells l ≤ 1048576) (k : Nat) (hk : 2097160 < k) : laws_toCellS.f k l = some (l.map cCell) := by
 have hlen : l.length ≤ 1048576 := by unfold szCells at hl; omega
 unfold laws_toCellS.f
 rw [if_pos (by omega), if_pos (by omega)]
 exact map_loop l (fun k acc i => laws_toCellS.l0 k l acc i) cCell z89 1048577 1 (by omega)
  (fun k acc _ => by simp only [laws_toCellS.l0]; rw [if_neg (by omega)])
  (fun k acc i h hk ha => by
   have hs : szCell l[i] ≤ 1048576 := by
    have := sum_mem (sz := szCell) (List.getElem_mem h)
    unfold szCells at hl; omega
   have hs' : l[i].f0.length + (l[i].f1.length + (l[i].f1.map (fun x => x.f2.size)).sum) ≤ 1048576 := hs
   simp only [laws_toCellS.l0]
   rw [if_pos (by omega), if_pos (by omega), rd_lcell h]
   unfold laws_toCell.f
   rw [toSlotS_at _ (by omega) k (by omega), bsome, toValueS_at _ (by omega) k (by omega), bsome, bsome]
   rw [if_pos (by omega), wnext h (by omega)]; rfl) k (by omega)
theorem szCellS_at (l : List S84) (hl : l.length ≤ maxLen) (hg : ∀ x ∈ l, x.f0.length ≤ maxLen ∧ x.f1.length ≤ maxLen ∧ ∀ v ∈ x.f1, v.f2.size ≤ maxLen) (n : Int) (hn : 0 ≤ n ∧ n ≤ 1048576) (k : Nat) (hk : 2097160 < k) : ∃ r, laws_szCellS.f k l n = some r ∧ r ≤ n ∧ (0 ≤ r → r = n - szCells l) := by
 have hm : l.length ≤ 9223372036854775807 := hl
 unfold laws_szCellS.f
 rw [w64 (by omega) (by omega)]
 by_cases h : n - (l.length : Int) < 0
 ·rw [if_pos h]; exact ⟨_, rfl, by omega, by omega⟩
 ·rw [if_neg h]
  obtain ⟨r, h1, h2, h3⟩ := sz_loop l (fun k left i => laws_szCellS.l0 k l left i) szCell 1048579 1 (by omega)
   (fun k left _ => by simp only [laws_szCellS.l0]; rw [if_neg (by omega)])
   (fun k left i h hk h0 h1 => by
    obtain ⟨g0, g1, g2⟩ := hg _ (List.getElem_mem h)
    obtain ⟨t, t1, t2, t3⟩ := szSlotS_at l[i].f0 left ⟨h0, h1⟩ g0
    simp only [laws_szCellS.l0]
    rw [if_pos (by omega), if_pos (by omega), rd_lcell h]
    unfold laws_szCell.f
    rw [t1, bsome]
    by_cases ht : t < 0
    ·exact ⟨-1, by omega, by omega, by rw [if_pos ht, bsome, if_pos (by omega), if_pos (by omega)]⟩
    ·obtain ⟨u, u1, u2, u3⟩ := szValueS_at l[i].f1 g1 g2 t (by omega) k (by omega)
     rw [if_neg ht, u1, bsome]
     by_cases hu : u < 0
     ·exact ⟨-1, by omega, by omega, by rw [if_pos hu, bsome, if_pos (by omega), if_pos (by omega)]⟩
     ·exact ⟨u, by omega, fun _ => by rw [u3 (by omega), t2 (by omega)]; unfold szCell; omega, by rw [if_neg hu, bsome, if_neg hu, if_neg hu, wnext h (by omega)]⟩) k (n - (l.length : Int)) (by omega) (by omega) (by omega)
  refine ⟨r, h1, by omega, fun hr => ?_⟩
  have := h3 hr
  unfold szCells
  omega
theorem cells_CB {l : List S84} {n : Nat} (h : szCells l ≤ n) : l.length ≤ n ∧ ∀ c ∈ l.map cCell, CB n c := by
 unfold szCells at h
 refine ⟨by omega, fun c hc => ?_⟩
 obtain ⟨y, hy, rfl⟩ := List.mem_map.1 hc
 have h1 : szCell y ≤ (l.map szCell).sum := sum_mem (sz := szCell) hy
 have h2 : szCell y = y.f0.length + (y.f1.length + (y.f1.map (fun x => x.f2.size)).sum) := rfl
 refine ⟨by show (y.f0.map cSlot).length ≤ n; rw [List.length_map]; omega, by show (y.f1.map cValue).length ≤ n; rw [List.length_map]; omega, fun v hv => ?_⟩
 obtain ⟨u, hu, rfl⟩ := List.mem_map.1 (show v ∈ y.f1.map cValue from hv)
 have h3 : u.f2.size ≤ (y.f1.map (fun x => x.f2.size)).sum := sum_mem (sz := fun x : S105 => x.f2.size) hu
 show u.f2.size ≤ n
 omega
theorem eqValue_refl (a b : Int) (s : ByteArray) : laws_eqValue.f a b s a b s = some true := by unfold laws_eqValue.f; simp
theorem eqValueS_refl (l : List S99) (hl : l.length ≤ 4611686018427387904) (k : Nat) (hk : l.length < k) : laws_eqValueS.f k l l = some true := by
 unfold laws_eqValueS.f
 rw [if_pos rfl]
 have := all_loop l (fun k i => laws_eqValueS.l0 k l l i) (fun _ => true) true 0 1 (by omega)
  (fun k _ => by simp only [laws_eqValueS.l0]; rw [if_neg (by omega)])
  (fun k i h _ => by
   simp only [laws_eqValueS.l0]
   rw [if_pos (by omega), if_pos (by omega), if_pos (by omega), rd_val h]
   simp only [eqValue_refl, bsome, if_true, wnext h hl]) k (by omega)
 rw [this]; congr 1; simp [List.all_eq_true]
theorem eqCellS_refl (l : List S89) (hl : l.length ≤ 1073741824) (M : Nat) (hM : M ≤ 1073741824) (hc : ∀ c ∈ l, CB M c) (k : Nat) (hk : l.length + (M + 1) < k) : laws_eqCellS.f k l l = some true := by
 unfold laws_eqCellS.f
 rw [if_pos rfl]
 have := all_loop l (fun k i => laws_eqCellS.l0 k l l i) (fun _ => true) true (M + 1) 1 (by omega)
  (fun k _ => by simp only [laws_eqCellS.l0]; rw [if_neg (by omega)])
  (fun k i h hk => by
   obtain ⟨c0, c1, c2⟩ := hc _ (List.getElem_mem h)
   simp only [laws_eqCellS.l0]
   rw [if_pos (by omega), if_pos (by omega), if_pos (by omega), rd_cell h]
   unfold laws_eqCell.f
   simp only [eqSlotS_refl l[i].f0 (by omega) k (by omega), eqValueS_refl l[i].f1 (by omega) k (by omega), bsome, if_true, wnext h (show l.length ≤ 4611686018427387904 by omega)]) k (by omega)
 rw [this]; congr 1; simp [List.all_eq_true]
def mkSlots : List S92 → Nat → List S92
 | [], _ => []
 | _ :: xs, a => ⟨(a : Int), ((a + 1 : Nat) : Int)⟩ :: mkSlots xs (a + 2)
theorem mkSlots_length (l : List S92) : ∀ a, (mkSlots l a).length = l.length := by
 induction l with
 | nil => intro a; rfl
 | cons x l ih => intro a; simp only [mkSlots, List.length_cons, ih]
theorem rdm_slot (p : List S92) (x : S92) (r : List S92) : rd_T92 (p ++ x :: r) (p.length : Int) = x := by
 unfold rd_T92
 simp [List.getD_eq_getElem?_getD]
theorem setm {α : Type} (p : List α) (a b : α) (r : List α) : (p ++ a :: r).set ((p.length : Int)).toNat b = p ++ b :: r := set_mid p a b r _ (Int.toNat_natCast _)
theorem snoc_cons {α : Type} (p : List α) (a : α) (r : List α) : p ++ a :: r = (p ++ [a]) ++ r := by simp
theorem markSlotS_l : ∀ (l p : List S92) (a k : Nat), p.length + l.length ≤ 1099511627776 → a + 2 * l.length ≤ 1099511627776 → l.length < k → laws_markSlotS.l0 k (p ++ l) (a : Int) (p.length : Int) = some (((a + 2 * l.length : Nat) : Int), p ++ mkSlots l a) := by
 intro l
 induction l with
 | nil =>
  intro p a k hp ha hk
  obtain ⟨k, rfl⟩ : ∃ q, k = q + 1 := ⟨k - 1, by omega⟩
  simp only [laws_markSlotS.l0]
  rw [if_neg (by simp)]; simp [mkSlots]
 | cons x l ih =>
  intro p a k hp ha hk
  simp only [List.length_cons] at hp ha hk
  obtain ⟨k, rfl⟩ : ∃ q, k = q + 1 := ⟨k - 1, by omega⟩
  simp only [laws_markSlotS.l0]
  have a1 : wrap64 ((a : Int) + 1) = ((a + 1 : Nat) : Int) := by rw [w64 (by omega) (by omega)]; omega
  have a2 : wrap64 (((a + 1 : Nat) : Int) + 1) = ((a + 2 : Nat) : Int) := by rw [w64 (by omega) (by omega)]; omega
  rw [if_pos (by rw [List.length_append, List.length_cons]; omega), if_pos (by omega), bsome]
  simp only [setm, rdm_slot]
  rw [a1, a2, wnext (i := p.length) (n := p.length + l.length + 1) (by omega) (by omega)]
  have := ih (p ++ [⟨(a : Int), ((a + 1 : Nat) : Int)⟩]) (a + 2) k (by rw [List.length_append]; simp only [List.length_cons, List.length_nil]; omega) (by omega) (by omega)
  rw [List.length_append, ← snoc_cons, ← snoc_cons] at this
  rw [show ((p.length + 1 : Nat) : Int) = ((p.length + [(⟨(a : Int), ((a + 1 : Nat) : Int)⟩ : S92)].length : Nat) : Int) from rfl, this]
  simp only [mkSlots, List.length_cons]
  rw [show a + 2 + 2 * l.length = a + 2 * (l.length + 1) by omega]
theorem markSlotS_at (l : List S92) (a k : Nat) (h : l.length ≤ 1099511627776) (ha : a + 2 * l.length ≤ 1099511627776) (hk : l.length < k) : laws_markSlotS.f k l (a : Int) = some (((a + 2 * l.length : Nat) : Int), mkSlots l a) := by
 have := markSlotS_l l [] a k (by simpa using h) ha hk
 simpa [laws_markSlotS.f] using this
theorem heldSlotS_l : ∀ (l p : List S92) (a k : Nat), p.length + l.length ≤ 1099511627776 → a + 2 * l.length ≤ 1099511627776 → l.length < k → laws_heldSlotS.l0 k (p ++ mkSlots l a) (a : Int) (p.length : Int) = some ((a + 2 * l.length : Nat) : Int) := by
 intro l
 induction l with
 | nil =>
  intro p a k hp ha hk
  obtain ⟨k, rfl⟩ : ∃ q, k = q + 1 := ⟨k - 1, by omega⟩
  rw [show mkSlots [] a = [] from rfl]
  simp only [laws_heldSlotS.l0]
  rw [if_neg (by simp)]; simp
 | cons x l ih =>
  intro p a k hp ha hk
  simp only [List.length_cons] at hp ha hk
  obtain ⟨k, rfl⟩ : ∃ q, k = q + 1 := ⟨k - 1, by omega⟩
  rw [show mkSlots (x :: l) a = ⟨(a : Int), ((a + 1 : Nat) : Int)⟩ :: mkSlots l (a + 2) from rfl]
  simp only [laws_heldSlotS.l0]
  have a1 : wrap64 ((a : Int) + 1) = ((a + 1 : Nat) : Int) := by rw [w64 (by omega) (by omega)]; omega
  have a2 : wrap64 (((a + 1 : Nat) : Int) + 1) = ((a + 2 : Nat) : Int) := by rw [w64 (by omega) (by omega)]; omega
  rw [if_pos (by rw [List.length_append, List.length_cons]; omega), if_pos (by omega)]
  simp only [rdm_slot]
  rw [a1, a2]
  simp only [if_true]
  rw [wnext (i := p.length) (n := p.length + l.length + 1) (by omega) (by omega)]
  have := ih (p ++ [⟨(a : Int), ((a + 1 : Nat) : Int)⟩]) (a + 2) k (by rw [List.length_append]; simp only [List.length_cons, List.length_nil]; omega) (by omega) (by omega)
  rw [List.length_append, ← snoc_cons] at this
  rw [show ((p.length + 1 : Nat) : Int) = ((p.length + [(⟨(a : Int), ((a + 1 : Nat) : Int)⟩ : S92)].length : Nat) : Int) from rfl, this]
  simp only [List.length_cons]
  rw [show a + 2 + 2 * l.length = a + 2 * (l.length + 1) by omega]
theorem heldSlotS_at (l : List S92) (a k : Nat) (h : l.length ≤ 1099511627776) (ha : a + 2 * l.length ≤ 1099511627776) (hk : l.length < k) : laws_heldSlotS.f k (mkSlots l a) (a : Int) = some ((a + 2 * l.length : Nat) : Int) := by
 have := heldSlotS_l l [] a k (by simpa using h) ha hk
 simpa [laws_heldSlotS.f] using this
theorem markText_l : ∀ (n k : Nat) (acc : ByteArray), n < k → acc.size + n ≤ 4611686018427387904 → ∃ s, laws_markText.l0 k (n : Int) acc = some s := by
 intro n
 induction n using Nat.strongRecOn with
 | ind n ih =>
  intro k acc hk ha
  obtain ⟨k, rfl⟩ : ∃ q, k = q + 1 := ⟨k - 1, by omega⟩
  simp only [laws_markText.l0]
  by_cases h : n = 0
  ·rw [if_neg (by omega), if_pos (by omega)]; exact ⟨_, rfl⟩
  ·have e1 : Int.tdiv (n : Int) 10 = ((n / 10 : Nat) : Int) := rfl
   rw [if_pos (by omega), bsome, e1, w64 (n := ((n / 10 : Nat) : Int)) (by omega) (by omega)]
   have hs : ∀ v : Int, (strOfNums [v]).size = 1 := fun v => rfl
   rw [hs, if_pos (by omega)]
   refine ih (n / 10) (by omega) k _ (by omega) ?_
   rw [ByteArray.size_append, hs]; omega
theorem markText_at (n : Nat) (h : n ≤ 1099511627776) (k : Nat) (hk : n < k) : ∃ s, laws_markText.f k (n : Int) = some s := by
 unfold laws_markText.f
 by_cases h0 : (n : Int) ≤ 0
 ·rw [if_pos h0]; exact ⟨_, rfl⟩
 ·rw [if_neg h0]
  exact markText_l n k _ hk (by show 0 + n ≤ 4611686018427387904; omega)
def mText (n : Nat) : ByteArray := (laws_markText.f (n + 1) (n : Int)).getD ByteArray.empty
theorem markText_eq (n : Nat) (h : n ≤ 1099511627776) (k : Nat) (hk : n < k) : laws_markText.f k (n : Int) = some (mText n) := by
 have h1 : ∀ d, laws_markText.f (n + 1 + d) (n : Int) = some (mText n) := by
  intro d
  induction d with
  | zero =>
   obtain ⟨s, e⟩ := markText_at n h (n + 1) (by omega)
   unfold mText; rw [Nat.add_zero, e]; rfl
  | succ d ih => exact laws_markText.mono _ _ _ ih
 have := h1 (k - (n + 1))
 rwa [show n + 1 + (k - (n + 1)) = k by omega] at this
def mkVals : List S99 → Nat → List S99
 | [], _ => []
 | _ :: xs, a => ⟨(a : Int), ((a + 1 : Nat) : Int), mText (a + 2)⟩ :: mkVals xs (a + 3)
theorem rdm_val (p : List S99) (x : S99) (r : List S99) : rd_T99 (p ++ x :: r) (p.length : Int) = x := by
 unfold rd_T99
 simp [List.getD_eq_getElem?_getD]
theorem markValueS_l : ∀ (l p : List S99) (a k : Nat), p.length + l.length ≤ 1099511627776 → a + 3 * l.length ≤ 1099511627776 → a + 4 * l.length < k → laws_markValueS.l0 k (p ++ l) (a : Int) (p.length : Int) = some (((a + 3 * l.length : Nat) : Int), p ++ mkVals l a) := by
 intro l
 induction l with
 | nil =>
  intro p a k hp ha hk
  obtain ⟨k, rfl⟩ : ∃ q, k = q + 1 := ⟨k - 1, by omega⟩
  simp only [laws_markValueS.l0]
  rw [if_neg (by simp)]; simp [mkVals]
 | cons x l ih =>
  intro p a k hp ha hk
  simp only [List.length_cons] at hp ha hk
  obtain ⟨k, rfl⟩ : ∃ q, k = q + 1 := ⟨k - 1, by omega⟩
  simp only [laws_markValueS.l0]
  have a1 : wrap64 ((a : Int) + 1) = ((a + 1 : Nat) : Int) := by rw [w64 (by omega) (by omega)]; omega
  have a2 : wrap64 (((a + 1 : Nat) : Int) + 1) = ((a + 2 : Nat) : Int) := by rw [w64 (by omega) (by omega)]; omega
  have a3 : wrap64 (((a + 2 : Nat) : Int) + 1) = ((a + 3 : Nat) : Int) := by rw [w64 (by omega) (by omega)]; omega
  rw [if_pos (by rw [List.length_append, List.length_cons]; omega), if_pos (by omega), bsome, bsome]
  simp only [setm, rdm_val]
  rw [a1, a2, a3, markText_eq (a + 2) (by omega) k (by omega), bsome]
  (try simp only [setm, rdm_val])
  rw [wnext (i := p.length) (n := p.length + l.length + 1) (by omega) (by omega)]
  have := ih (p ++ [⟨(a : Int), ((a + 1 : Nat) : Int), mText (a + 2)⟩]) (a + 3) k (by rw [List.length_append]; simp only [List.length_cons, List.length_nil]; omega) (by omega) (by omega)
  rw [List.length_append, ← snoc_cons, ← snoc_cons] at this
  rw [show ((p.length + 1 : Nat) : Int) = ((p.length + [(⟨(a : Int), ((a + 1 : Nat) : Int), mText (a + 2)⟩ : S99)].length : Nat) : Int) from rfl, this]
  simp only [mkVals, List.length_cons]
  rw [show a + 3 + 3 * l.length = a + 3 * (l.length + 1) by omega]
theorem markValueS_at (l : List S99) (a k : Nat) (h : l.length ≤ 1099511627776) (ha : a + 3 * l.length ≤ 1099511627776) (hk : a + 4 * l.length < k) : laws_markValueS.f k l (a : Int) = some (((a + 3 * l.length : Nat) : Int), mkVals l a) := by
 have := markValueS_l l [] a k (by simpa using h) ha hk
 simpa [laws_markValueS.f] using this
theorem heldValueS_l : ∀ (l p : List S99) (a k : Nat), p.length + l.length ≤ 1099511627776 → a + 3 * l.length ≤ 1099511627776 → a + 4 * l.length < k → laws_heldValueS.l0 k (p ++ mkVals l a) (a : Int) (p.length : Int) = some ((a + 3 * l.length : Nat) : Int) := by
 intro l
 induction l with
 | nil =>
  intro p a k hp ha hk
  obtain ⟨k, rfl⟩ : ∃ q, k = q + 1 := ⟨k - 1, by omega⟩
  rw [show mkVals [] a = [] from rfl]
  simp only [laws_heldValueS.l0]
  rw [if_neg (by simp)]; simp
 | cons x l ih =>
  intro p a k hp ha hk
  simp only [List.length_cons] at hp ha hk
  obtain ⟨k, rfl⟩ : ∃ q, k = q + 1 := ⟨k - 1, by omega⟩
  rw [show mkVals (x :: l) a = ⟨(a : Int), ((a + 1 : Nat) : Int), mText (a + 2)⟩ :: mkVals l (a + 3) from rfl]
  simp only [laws_heldValueS.l0]
  have a1 : wrap64 ((a : Int) + 1) = ((a + 1 : Nat) : Int) := by rw [w64 (by omega) (by omega)]; omega
  have a2 : wrap64 (((a + 1 : Nat) : Int) + 1) = ((a + 2 : Nat) : Int) := by rw [w64 (by omega) (by omega)]; omega
  have a3 : wrap64 (((a + 2 : Nat) : Int) + 1) = ((a + 3 : Nat) : Int) := by rw [w64 (by omega) (by omega)]; omega
  rw [if_pos (by rw [List.length_append, List.length_cons]; omega), if_pos (by omega)]
  simp only [rdm_val]
  rw [a1, a2, a3]
  simp only [if_true]
  rw [markText_eq (a + 2) (by omega) k (by omega), bsome, if_pos rfl, wnext (i := p.length) (n := p.length + l.length + 1) (by omega) (by omega)]
  have := ih (p ++ [⟨(a : Int), ((a + 1 : Nat) : Int), mText (a + 2)⟩]) (a + 3) k (by rw [List.length_append]; simp only [List.length_cons, List.length_nil]; omega) (by omega) (by omega)
  rw [List.length_append, ← snoc_cons] at this
  rw [show ((p.length + 1 : Nat) : Int) = ((p.length + [(⟨(a : Int), ((a + 1 : Nat) : Int), mText (a + 2)⟩ : S99)].length : Nat) : Int) from rfl, this]
  simp only [List.length_cons]
  rw [show a + 3 + 3 * l.length = a + 3 * (l.length + 1) by omega]
theorem heldValueS_at (l : List S99) (a k : Nat) (h : l.length ≤ 1099511627776) (ha : a + 3 * l.length ≤ 1099511627776) (hk : a + 4 * l.length < k) : laws_heldValueS.f k (mkVals l a) (a : Int) = some ((a + 3 * l.length : Nat) : Int) := by
 have := heldValueS_l l [] a k (by simpa using h) ha hk
 simpa [laws_heldValueS.f] using this
def szm (c : S89) : Nat := 2 * c.f0.length + 3 * c.f1.length
def szms (l : List S89) : Nat := (l.map szm).sum
theorem szms_cons (c : S89) (l : List S89) : szms (c :: l) = 2 * c.f0.length + 3 * c.f1.length + szms l := by unfold szms; rw [List.map_cons, List.sum_cons]; rfl
def mkCells : List S89 → Nat → List S89
 | [], _ => []
 | c :: xs, a => ⟨mkSlots c.f0 a, mkVals c.f1 (a + 2 * c.f0.length)⟩ :: mkCells xs (a + (2 * c.f0.length + 3 * c.f1.length))
theorem rdm_cell (p : List S89) (x : S89) (r : List S89) : rd_T89 (p ++ x :: r) (p.length : Int) = x := by
 unfold rd_T89
 simp [List.getD_eq_getElem?_getD]
theorem markCellS_l : ∀ (l p : List S89) (a k : Nat), p.length + l.length ≤ 1099511627776 → a + szms l ≤ 1099511627776 → a + 2 * szms l + l.length < k → laws_markCellS.l0 k (p ++ l) (a : Int) (p.length : Int) = some (((a + szms l : Nat) : Int), p ++ mkCells l a) := by
 intro l
 induction l with
 | nil =>
  intro p a k hp ha hk
  obtain ⟨k, rfl⟩ : ∃ q, k = q + 1 := ⟨k - 1, by omega⟩
  simp only [laws_markCellS.l0]
  rw [if_neg (by simp)]; simp [mkCells, szms]
 | cons x l ih =>
  intro p a k hp ha hk
  rw [szms_cons] at ha hk
  simp only [List.length_cons] at hp hk
  obtain ⟨k, rfl⟩ : ∃ q, k = q + 1 := ⟨k - 1, by omega⟩
  simp only [laws_markCellS.l0]
  rw [if_pos (by rw [List.length_append, List.length_cons]; omega), if_pos (by omega), rdm_cell, markSlotS_at x.f0 a k (by omega) (by omega) (by omega), bsome, markValueS_at x.f1 (a + 2 * x.f0.length) k (by omega) (by omega) (by omega), bsome, setm, wnext (i := p.length) (n := p.length + l.length + 1) (by omega) (by omega)]
  have := ih (p ++ [⟨mkSlots x.f0 a, mkVals x.f1 (a + 2 * x.f0.length)⟩]) (a + (2 * x.f0.length + 3 * x.f1.length)) k (by rw [List.length_append]; simp only [List.length_cons, List.length_nil]; omega) (by omega) (by omega)
  rw [List.length_append, ← snoc_cons, ← snoc_cons] at this
  simp only [mkCells]
  rw [szms_cons, ← Nat.add_assoc a, ← this, show a + 2 * x.f0.length + 3 * x.f1.length = a + (2 * x.f0.length + 3 * x.f1.length) by omega]; rfl
theorem markCellS_at (l : List S89) (a k : Nat) (h : l.length ≤ 1099511627776) (ha : a + szms l ≤ 1099511627776) (hk : a + 2 * szms l + l.length < k) : laws_markCellS.f k l (a : Int) = some (((a + szms l : Nat) : Int), mkCells l a) := by
 have := markCellS_l l [] a k (by simpa using h) ha hk
 simpa [laws_markCellS.f] using this
theorem szms_cCell (l : List S84) : szms (l.map cCell) ≤ 3 * szCells l := by
 induction l with
 | nil => simp [szms]
 | cons x l ih =>
  rw [List.map_cons, szms_cons]
  have e : szCells (x :: l) = 1 + (x.f0.length + (x.f1.length + (x.f1.map (fun x => x.f2.size)).sum)) + szCells l := by
   unfold szCells; rw [List.map_cons, List.sum_cons, List.length_cons]; unfold szCell szVals; omega
  have e0 : (cCell x).f0.length = x.f0.length := by unfold cCell; simp
  have e1 : (cCell x).f1.length = x.f1.length := by unfold cCell; simp
  omega
theorem heldCellS_l : ∀ (l p : List S89) (a k : Nat), p.length + l.length ≤ 1099511627776 → a + szms l ≤ 1099511627776 → a + 2 * szms l + l.length < k → laws_heldCellS.l0 k (p ++ mkCells l a) (a : Int) (p.length : Int) = some ((a + szms l : Nat) : Int) := by
 intro l
 induction l with
 | nil =>
  intro p a k hp ha hk
  obtain ⟨k, rfl⟩ : ∃ q, k = q + 1 := ⟨k - 1, by omega⟩
  rw [show mkCells [] a = [] from rfl]
  simp only [laws_heldCellS.l0]
  rw [if_neg (by simp)]; simp [szms]
 | cons x l ih =>
  intro p a k hp ha hk
  rw [szms_cons] at ha hk
  simp only [List.length_cons] at hp hk
  obtain ⟨k, rfl⟩ : ∃ q, k = q + 1 := ⟨k - 1, by omega⟩
  rw [show mkCells (x :: l) a = ⟨mkSlots x.f0 a, mkVals x.f1 (a + 2 * x.f0.length)⟩ :: mkCells l (a + (2 * x.f0.length + 3 * x.f1.length)) from rfl]
  simp only [laws_heldCellS.l0]
  rw [if_pos (by rw [List.length_append, List.length_cons]; omega), if_pos (by omega)]
  simp only [rdm_cell]
  rw [heldSlotS_at x.f0 a k (by omega) (by omega) (by omega), bsome, if_neg (by omega), heldValueS_at x.f1 (a + 2 * x.f0.length) k (by omega) (by omega) (by omega), bsome, if_neg (by omega), wnext (i := p.length) (n := p.length + l.length + 1) (by omega) (by omega)]
  have := ih (p ++ [⟨mkSlots x.f0 a, mkVals x.f1 (a + 2 * x.f0.length)⟩]) (a + (2 * x.f0.length + 3 * x.f1.length)) k (by rw [List.length_append]; simp only [List.length_cons, List.length_nil]; omega) (by omega) (by omega)
  rw [List.length_append, ← snoc_cons] at this
  rw [szms_cons, show a + (2 * x.f0.length + 3 * x.f1.length + szms l) = a + (2 * x.f0.length + 3 * x.f1.length) + szms l by omega, ← this, show a + 2 * x.f0.length + 3 * x.f1.length = a + (2 * x.f0.length + 3 * x.f1.length) by omega]; rfl
theorem heldCellS_at (l : List S89) (a k : Nat) (h : l.length ≤ 1099511627776) (ha : a + szms l ≤ 1099511627776) (hk : a + 2 * szms l + l.length < k) : laws_heldCellS.f k (mkCells l a) (a : Int) = some ((a + szms l : Nat) : Int) := by
 have := heldCellS_l l [] a k (by simpa using h) ha hk
 simpa [laws_heldCellS.f] using this
def G94 (x : S94) : Prop := (Lit.int .i64 x.f0).wf = true ∧ ((Lit.int .i64 x.f1).wf = true)
def G105 (x : S105) : Prop := (Lit.int .i64 x.f0).wf = true ∧ ((Lit.int .i64 x.f1).wf = true ∧ (x.f2.size ≤ maxLen))
def G84 (x : S84) : Prop := (x.f0.length ≤ maxLen ∧ ∀ ex_f0 ∈ x.f0, G94 ex_f0) ∧ ((x.f1.length ≤ maxLen ∧ ∀ ex_f1 ∈ x.f1, G105 ex_f1))
def PureFnExactStorePut : Prop := ∀ (l0 : List (S84)) (l1 : List (S94)) (l2 : List (S105)), l0.length ≤ maxLen → (∀ x ∈ l0, G84 x) → l1.length ≤ maxLen → (∀ x ∈ l1, G94 x) → l2.length ≤ maxLen → (∀ x ∈ l2, G105 x) → ∃ k, laws_FnExactStorePut.f k l0 l1 l2 = some true
theorem szms_set (w : List S92) (v : List S99) (l : List S89) : szms (setS w v l) ≤ 2 * w.length + 3 * v.length + szms l := by
 induction l with
 | nil => show szms [⟨w, v⟩] ≤ _; rw [szms_cons]; exact Nat.le_refl _
 | cons x l ih =>
  rw [setS_cons]
  split
  ·rw [szms_cons, szms_cons]; show 2 * w.length + 3 * v.length + _ ≤ _; omega
  ·split
   ·rw [szms_cons, szms_cons]; show 2 * w.length + 3 * v.length + _ ≤ _; omega
   ·rw [szms_cons, szms_cons]; omega
theorem FnExactStorePut : PureFnExactStorePut := by
 intro l w u hl hg hw _ hu hgu
 obtain ⟨K, hK⟩ : ∃ K : Nat, K = 134217728 := ⟨_, rfl⟩
 refine ⟨K + 3, ?_⟩
 obtain ⟨r, hr, h1, h2⟩ := szCellS_at l hl (fun x hx => ⟨(hg x hx).1.1, (hg x hx).2.1, fun v hv => ((hg x hx).2.2 v hv).2.2⟩) 1048576 (by omega) (K + 3) (by omega)
 unfold laws_FnExactStorePut.f
 rw [hr, bsome]
 by_cases h : r < 0
 ·rw [if_pos h]
 rw [if_neg h]
 obtain ⟨s, hs, h3, h4⟩ := szSlotS_at w r (by omega) hw
 rw [hs, bsome]
 by_cases h' : s < 0
 ·rw [if_pos h']
 rw [if_neg h']
 obtain ⟨z, hz, h7, h8⟩ := szValueS_at u hu (fun x hx => (hgu x hx).2.2) s (by omega) (K + 3) (by omega)
 rw [hz, bsome]
 by_cases h'' : z < 0
 ·rw [if_pos h'']
 rw [if_neg h'']
 have hsz : szCells l ≤ 1048576 := by have := h2 (by omega); omega
 have hwl : w.length ≤ 1048576 := by have := h3 (by omega); omega
 have hzu : szVals u ≤ 1048576 := by have := h8 (by omega); omega
 have hul : u.length ≤ 1048576 := by unfold szVals at hzu; omega
 obtain ⟨h5, h6⟩ := cells_CB hsz
 have hlen : (l.map cCell).length ≤ 1048576 := by simpa using h5
 have hm : szms (l.map cCell) ≤ 3145728 := by have := szms_cCell l; omega
 have hux : ∀ x ∈ u.map cValue, x.f2.size < 1048576 := fun x hx => by
  obtain ⟨y, hy, rfl⟩ := List.mem_map.1 hx
  have h9 : y.f2.size ≤ (u.map (fun x => x.f2.size)).sum := sum_mem (sz := fun x : S105 => x.f2.size) hy
  have h10 : 0 < u.length := List.length_pos_of_mem hy
  unfold szVals at hzu
  show y.f2.size < 1048576
  omega
 have hto : ∀ q, 2097160 < q → laws_toCellS.f q l = some (l.map cCell) := fun q hq => toCellS_at l hsz q hq
 have htw : ∀ q, 2097160 < q → laws_toSlotS.f q w = some (w.map cSlot) := fun q hq => toSlotS_at w hwl q (by omega)
 have htu : ∀ q, 2097160 < q → laws_toValueS.f q u = some (u.map cValue) := fun q hq => toValueS_at u hul q (by omega)
 have hwl' : (w.map cSlot).length ≤ 1048576 := by simpa using hwl
 have hul' : (u.map cValue).length ≤ 1048576 := by simpa using hul
 generalize l.map cCell = a at *
 generalize w.map cSlot = p at *
 generalize u.map cValue = v at *
 have hsp : ∀ q, 8388610 < q → spec_StorePut.f q a p v = some (putS p v a) := fun q hq => spec_putS_at a p v hlen h6 hwl' hul' hux q hq
 have him : ∀ q, 8388610 < q → impl_StorePut.f q a p v = some (putS p v a) := fun q hq => impl_putS_at a p v hlen h6 hwl' hul' hux q hq
 have hb : (putS p v a).1.length ≤ 1048576 ∧ (∀ c ∈ (putS p v a).1, CB 1048576 c) ∧ szms (putS p v a).1 ≤ 8388608 := by
  unfold putS
  split
  ·split
   ·exact ⟨by simp, by simp, by simp [szms]⟩
   ·refine ⟨by show (setS p v a).length ≤ 1048576; omega, fun c hc => ?_, ?_⟩
    ·rcases setS_mem hc with rfl | hc
     ·exact ⟨hwl', hul', fun x hx => by have := hux x hx; omega⟩
     ·exact h6 c hc
    ·have := szms_set p v a; show szms (setS p v a) ≤ _; omega
  ·exact ⟨by simp, by simp, by simp [szms]⟩
 generalize putS p v a = g at *
 obtain ⟨g, ok⟩ := g
 obtain ⟨hb1, hb2, hb3⟩ := hb
 have hb1' : g.length ≤ 1048576 := hb1
 have hb3' : szms g ≤ 8388608 := hb3
 have heq : ∀ q, 8388610 < q → laws_eqCellS.f q g g = some true := fun q hq => eqCellS_refl g (by omega) 1048576 (by omega) hb2 q (by omega)
 have hma : ∀ q, 8388610 < q → laws_markCellS.f q a 1 = some (((1 + szms a : Nat) : Int), mkCells a 1) := fun q hq => markCellS_at a 1 q (by omega) (by omega) (by omega)
 have hmp : ∀ q, 8388610 < q → laws_markSlotS.f q p ((1 + szms a : Nat) : Int) = some (((1 + szms a + 2 * p.length : Nat) : Int), mkSlots p (1 + szms a)) := fun q hq => markSlotS_at p _ q (by omega) (by omega) (by omega)
 have hmv : ∀ q, 16777216 < q → laws_markValueS.f q v ((1 + szms a + 2 * p.length : Nat) : Int) = some (((1 + szms a + 2 * p.length + 3 * v.length : Nat) : Int), mkVals v (1 + szms a + 2 * p.length)) := fun q hq => markValueS_at v _ q (by omega) (by omega) (by omega)
 have hmg : ∀ q, 33554432 < q → laws_markCellS.f q g 1 = some (((1 + szms g : Nat) : Int), mkCells g 1) := fun q hq => markCellS_at g 1 q (by omega) (by omega) (by omega)
 have hhg : ∀ q, 33554432 < q → laws_heldCellS.f q (mkCells g 1) 1 = some ((1 + szms g : Nat) : Int) := fun q hq => heldCellS_at g 1 q (by omega) (by omega) (by omega)
 have j2 : laws_FnExactStorePut.j2 (K + 1) (mkCells g 1) ((1 + szms g : Nat) : Int) false = some true := by
  simp only [laws_FnExactStorePut.j2]
  rw [if_neg (by decide), hhg K (by omega), bsome, if_neg (by omega), if_pos rfl]
 have j1 : laws_FnExactStorePut.j1 (K + 2) l w u g ok g false = some true := by
  simp only [laws_FnExactStorePut.j1]
  rw [if_neg (by decide), hmg (K + 1) (by omega), bsome]
  show Option.bind (laws_heldCellS.f (K + 1) (mkCells g 1) 1) _ = _
  rw [hhg (K + 1) (by omega), bsome, if_neg (by omega), if_pos rfl, hto (K + 1) (by omega), bsome, htw (K + 1) (by omega), bsome, htu (K + 1) (by omega), bsome, him (K + 1) (by omega), bsome]
  show Option.bind (laws_eqCellS.f (K + 1) g g) _ = _
  rw [heq (K + 1) (by omega), bsome, if_pos rfl]
  show laws_FnExactStorePut.j2 (K + 1) (mkCells g 1) ((1 + szms g : Nat) : Int) (ok != ok) = _
  rw [bne_self_eq_false]; exact j2
 have j0 : laws_FnExactStorePut.j0 (K + 3) l w u g ok a p v g ok false = some true := by
  simp only [laws_FnExactStorePut.j0]
  rw [if_neg (by decide), hto (K + 2) (by omega), bsome, eqCellS_refl a (by omega) 1048576 (by omega) h6 (K + 2) (by omega), bsome, if_pos rfl, htw (K + 2) (by omega), bsome, eqSlotS_refl p (by omega) (K + 2) (by omega), bsome, if_pos rfl, htu (K + 2) (by omega), bsome, eqValueS_refl v (by omega) (K + 2) (by omega), bsome, if_pos rfl, hma (K + 2) (by omega), bsome]
  show Option.bind (laws_markSlotS.f (K + 2) p ((1 + szms a : Nat) : Int)) _ = _
  rw [hmp (K + 2) (by omega), bsome]
  show Option.bind (laws_markValueS.f (K + 2) v ((1 + szms a + 2 * p.length : Nat) : Int)) _ = _
  rw [hmv (K + 2) (by omega), bsome, if_neg (by show ¬ (((1 + szms a + 2 * p.length + 3 * v.length : Nat) : Int) < 0); omega), heq (K + 2) (by omega), bsome, if_pos rfl, bne_self_eq_false]; exact j1
 simp only [hto (K + 3) (by omega), htw (K + 3) (by omega), htu (K + 3) (by omega), hsp (K + 3) (by omega), him (K + 3) (by omega), heq (K + 3) (by omega), bsome, if_true, bne_self_eq_false]
 exact j0
end Go.Proofs.Ytpadhphdglbciaa.Pure
