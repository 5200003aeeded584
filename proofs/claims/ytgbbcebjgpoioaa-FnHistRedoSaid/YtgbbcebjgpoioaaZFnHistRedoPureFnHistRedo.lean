/- The pure statement of the law 'FnHistRedo': for every list of bytes the law's function returns true (no condition but that of the form: the list's length). -/
import Derived.Test.YtgbbcebjgpoioaaZFnHistRedoQFnHistRedox25
namespace Go.Proofs.Ytgbbcebjgpoioaa.Pure
open Go Go.RowKit Go.Proofs.Ytgbbcebjgpoioaa.PFnHistRedo Go.Proofs.YtgbbcebjgpoioaaW.PrintWords Go.Proofs.YtgbbcebjgpoioaaW.PrintLast
set_option linter.unusedVariables false
set_option linter.unusedSimpArgs false
theorem w64 {n : Int} (h1 : -9223372036854775808 ≤ n) (h2 : n ≤ 9223372036854775807) : wrap64 n = n := by
 unfold wrap64; omega
theorem wnext {i n : Nat} (h : i < n) (hn : n ≤ 4611686018427387904) : wrap64 ((i : Int) + 1) = ((i + 1 : Nat) : Int) := by
 rw [w64 (by omega) (by omega)]; omega
theorem loop_up {n : Nat} (Q : Nat → Nat → Prop) (last : ∀ k, Q (k + 1) n) (step : ∀ k i, i < n → Q k (i + 1) → Q (k + 1) i) : ∀ k i, i ≤ n → n - i < k → Q k i := by
 intro k
 induction k with
 | zero => intro i _ h; omega
 | succ k ih =>
  intro i hi hk
  by_cases h : i = n
  ·subst h; exact last k
  ·exact step k i (by omega) (ih (i + 1) (by omega) (by omega))
theorem drop_at {α : Type} {l : List α} {i : Nat} (d : α) (h : i < l.length) : l.drop i = l.getD ((i : Int)).toNat d :: l.drop (i + 1) := by
 rw [List.drop_eq_getElem_cons h, List.getD_eq_getElem?_getD]
 simp [h]
theorem range_at {i n : Nat} (h : i < n) : List.range' i (n - i) = i :: List.range' (i + 1) (n - (i + 1)) := by
 rw [show n - i = (n - (i + 1)) + 1 by omega, List.range'_succ]
theorem range_end (n : Nat) : List.range' n (n - n) = [] := by simp
theorem bsome {α β : Type} (a : α) (f : α → Option β) : (some a).bind f = f a := by
 cases h : f a <;> simp [h]
theorem getD_at {α : Type} {l : List α} {i : Nat} (d : α) (h : i < l.length) : l.getD ((i : Int)).toNat d = l[i] := by
 simp [List.getD_eq_getElem?_getD, h]
theorem drop_cons {α : Type} {l : List α} {i : Nat} (h : i < l.length) : l.drop i = l[i] :: l.drop (i + 1) := List.drop_eq_getElem_cons h
theorem loop_s {n m s : Nat} (hs : 0 < s) (Q : Nat → Nat → Prop) (last : ∀ k, m ≤ k → Q (k + 1) n) (step : ∀ k i, i < n → m ≤ k → Q k (i + 1) → Q (k + s) i) : ∀ d i k, n - i = d → i ≤ n → d * s + m < k → Q k i := by
 intro d
 induction d with
 | zero =>
  intro i k hd hi hk
  obtain rfl : i = n := by omega
  obtain ⟨k, rfl⟩ : ∃ q, k = q + 1 := ⟨k - 1, by omega⟩
  exact last k (by omega)
 | succ d ih =>
  intro i k hd hi hk
  rw [Nat.add_mul, Nat.one_mul] at hk; obtain ⟨k, rfl⟩ : ∃ q, k = q + s := ⟨k - s, by omega⟩
  exact step k i (by omega) (by omega) (ih (i + 1) k (by omega) (by omega) (by omega))
theorem all_loop {α : Type} (xs : List α) (F : Nat → Int → Option Bool) (p : α → Bool) (fin : Bool) (m s : Nat) (hs : 0 < s)
  (hend : ∀ k, m ≤ k → F (k + 1) (xs.length : Int) = some fin)
  (hstep : ∀ k i (h : i < xs.length), m ≤ k → F (k + s) (i : Int) = if p xs[i] = true then F k ((i + 1 : Nat) : Int) else some false) :
  ∀ k, xs.length * s + m < k → F k 0 = some (xs.all p && fin) := by
 intro k hk
 have := loop_s (n := xs.length) (m := m) (s := s) hs (fun k i => F k (i : Int) = some ((xs.drop i).all p && fin)) (fun k hm => by show F (k + 1) (xs.length : Int) = _; rw [hend k hm, List.drop_length]; rfl)
  (fun k i h hm ih => by
   show F (k + s) (i : Int) = _
   rw [hstep k i h hm, drop_cons h, List.all_cons]; have ih' : F k ((i + 1 : Nat) : Int) = some ((xs.drop (i + 1)).all p && fin) := ih; rw [ih']
   by_cases hp : p xs[i] = true <;> simp [hp]) xs.length 0 k (by omega) (by omega) hk
 simpa using this
theorem within_at (a b c : Int) : impl_within.f a b c = some (decide (b ≤ a ∧ a ≤ c)) := by
 unfold impl_within.f
 by_cases h : a ≥ b
 ·rw [if_pos h]; congr 1; exact decide_eq_decide.mpr ⟨fun x => ⟨h, x⟩, fun x => x.2⟩
 ·rw [if_neg h]; congr 1; exact (decide_eq_false fun x => h x.1).symm
theorem inRange_at (a b c : Int) : spec_inRange.f a b c = some (decide (b ≤ a ∧ a ≤ c)) := by
 unfold spec_inRange.f
 by_cases h : a ≥ b
 ·rw [if_pos h]; congr 1; exact decide_eq_decide.mpr ⟨fun x => ⟨h, x⟩, fun x => x.2⟩
 ·rw [if_neg h]; congr 1; exact (decide_eq_false fun x => h x.1).symm
def Good (c : Int) : Prop := (97 ≤ c ∧ c ≤ 122) ∨ (48 ≤ c ∧ c ≤ 57) ∨ c = 32
instance (c : Int) : Decidable (Good c) := by unfold Good; exact inferInstance
def goodsFrom (s : ByteArray) (i : Nat) : Bool := (List.range' i (s.size - i)).all fun j => decide (Good (bt s j))
theorem goods_at {s : ByteArray} {i : Nat} (h : i < s.size) : goodsFrom s i = (decide (Good (bt s i)) && goodsFrom s (i + 1)) := by
 unfold goodsFrom; rw [range_at h]; rfl
theorem goods_end (s : ByteArray) : goodsFrom s s.size = true := by
 unfold goodsFrom; rw [range_end]; rfl
def wordOk (s : ByteArray) : Bool := goodsFrom s 0 && decide (s.size ≤ 12)
theorem impl_word_l (s : ByteArray) (hs : s.size ≤ 4611686018427387904) : ∀ k i, i ≤ s.size → s.size - i < k → impl_word.l0 k s (i : Int) = some (goodsFrom s i && decide (s.size ≤ 12)) := by
 refine loop_up (fun k i => impl_word.l0 k s (i : Int) = some (goodsFrom s i && decide (s.size ≤ 12))) ?_ ?_
 ·intro k
  simp only [impl_word.l0]; rw [if_neg (by omega), goods_end, Bool.true_and]
  congr 1; exact decide_eq_decide.mpr (by omega)
 ·intro k i hi ih
  have e : impl_word.l0 (k + 1) s (i : Int) = if Good (bt s i) then impl_word.l0 k s (wrap64 ((i : Int) + 1)) else some false := by
   simp only [impl_word.l0]; rw [if_pos (by omega), if_pos (by omega)]
   by_cases hg : Good (bt s i)
   ·rw [if_pos hg]; unfold Good at hg
    repeat' split
    all_goals first
     | rfl
     | (exfalso; omega)
   ·rw [if_neg hg]; unfold Good at hg
    repeat' split
    all_goals first
     | rfl
     | (exfalso; omega)
  rw [e, wnext hi hs, ih, goods_at hi]
  by_cases hg : Good (bt s i) <;> simp [hg]
theorem impl_word_at (s : ByteArray) (hs : s.size ≤ 4611686018427387904) (k : Nat) (hk : s.size < k) : impl_word.f k s = some (wordOk s) := by
 have := impl_word_l s hs k 0 (by omega) (by omega)
 unfold impl_word.f wordOk
 exact this
theorem plain_at (c : Int) : spec_plainByte.f c = some (decide (Good c)) := by
 unfold spec_plainByte.f
 by_cases hg : Good c
 ·rw [decide_eq_true hg]; unfold Good at hg
  repeat' split
  all_goals first
   | rfl
   | (congr 1; exact beq_iff_eq.mpr (by omega))
   | (exfalso; omega)
 ·rw [decide_eq_false hg]; unfold Good at hg
  repeat' split
  all_goals first
   | rfl
   | (congr 1; exact beq_eq_false_iff_ne.mpr (by omega))
   | (exfalso; omega)
theorem spec_word_l (s : ByteArray) (hs : s.size ≤ 4611686018427387904) : ∀ k i, i ≤ s.size → s.size - i < k → spec_validWord.l0 k s (i : Int) = some (goodsFrom s i) := by
 refine loop_up (fun k i => spec_validWord.l0 k s (i : Int) = some (goodsFrom s i)) ?_ ?_
 ·intro k
  simp only [spec_validWord.l0]; rw [if_neg (by omega), goods_end]
 ·intro k i hi ih
  simp only [spec_validWord.l0]; rw [if_pos (by omega), if_pos (by omega), plain_at, goods_at hi]; simp only [Option.bind_some, wnext hi hs, ih]
  by_cases hg : Good (bt s i) <;> simp [hg]
theorem spec_word_at (s : ByteArray) (hs : s.size ≤ 4611686018427387904) (k : Nat) (hk : s.size < k) : spec_validWord.f k s = some (wordOk s) := by
 have := spec_word_l s hs k 0 (by omega) (by omega)
 unfold spec_validWord.f wordOk
 by_cases h : (s.size : Int) > 12
 ·rw [if_pos h, show decide (s.size ≤ 12) = false from decide_eq_false (by omega), Bool.and_false]
 ·rw [if_neg h, show decide (s.size ≤ 12) = true from decide_eq_true (by omega), Bool.and_true]; exact this
def vOk (a b : Int) (s : ByteArray) : Bool :=
 if a = 0 then (if b = 0 then s.toList == ([] : List UInt8) else false)
 else if a = 1 then (if -1000 ≤ b ∧ b ≤ 1000 then s.toList == ([] : List UInt8) else false)
 else if a = 2 then (if b = 0 then wordOk s else false) else false
theorem impl_valOk_at (a b : Int) (s : ByteArray) (hs : s.size ≤ 4611686018427387904) (k : Nat) (hk : s.size < k) : impl_ValOk.f k a b s = some (vOk a b s) := by
 unfold impl_ValOk.f vOk
 simp only [within_at, impl_word_at s hs k hk, Option.bind_some, decide_eq_true_eq]
 repeat' split
 all_goals rfl
theorem spec_val_at (a b : Int) (s : ByteArray) (hs : s.size ≤ 4611686018427387904) (k : Nat) (hk : s.size < k) : spec_validValue.f k a b s = some (vOk a b s) := by
 unfold spec_validValue.f vOk
 simp only [inRange_at, spec_word_at s hs k hk, Option.bind_some, decide_eq_true_eq]
 repeat' split
 all_goals rfl
def slotOk (x : S96) : Bool := decide (0 ≤ x.f0 ∧ x.f0 ≤ 3) && decide (0 ≤ x.f1 ∧ x.f1 ≤ 103)
theorem rd_slot {l : List S96} {i : Nat} (h : i < l.length) : l.drop i = rd_T96 l (i : Int) :: l.drop (i + 1) := drop_at z96 h
def plOk (l : List S96) : Bool := l.all slotOk && decide (l.length ≤ 20)
theorem validSlot_at (x : S96) : spec_validSlot.f x.f0 x.f1 = some (slotOk x) := by
 unfold spec_validSlot.f slotOk
 simp only [inRange_at, Option.bind_some]
 by_cases h : 0 ≤ x.f0 ∧ x.f0 ≤ 3 <;> simp [h]
theorem spec_place_l (l : List S96) (hl : l.length ≤ 4611686018427387904) : ∀ k i, i ≤ l.length → l.length - i < k → spec_validPlace.l0 k l (i : Int) = some ((l.drop i).all slotOk) := by
 refine loop_up (fun k i => spec_validPlace.l0 k l (i : Int) = some ((l.drop i).all slotOk)) ?_ ?_
 ·intro k
  simp only [spec_validPlace.l0]; rw [if_neg (by omega), List.drop_length]; rfl
 ·intro k i hi ih
  simp only [spec_validPlace.l0]; rw [if_pos (by omega), if_pos (by omega), validSlot_at, rd_slot hi]; simp only [Option.bind_some, wnext hi hl, ih, List.all_cons]
  by_cases hg : slotOk (rd_T96 l (i : Int)) = true <;> simp [hg]
theorem spec_place_at (l : List S96) (hl : l.length ≤ 4611686018427387904) (k : Nat) (hk : l.length < k) : spec_validPlace.f k l = some (plOk l) := by
 have := spec_place_l l hl k 0 (by omega) (by omega)
 unfold spec_validPlace.f plOk
 by_cases h : (l.length : Int) > 20
 ·rw [if_pos h, show decide (l.length ≤ 20) = false from decide_eq_false (by omega), Bool.and_false]
 ·rw [if_neg h, show decide (l.length ≤ 20) = true from decide_eq_true (by omega), Bool.and_true]; exact this
theorem impl_place_l (l : List S96) (hl : l.length ≤ 4611686018427387904) : ∀ k i, i ≤ l.length → l.length - i < k → impl_PlaceOk.l0 k l l (l.length : Int) (i : Int) = some ((l.drop i).all slotOk && decide (l.length ≤ 20)) := by
 refine loop_up (fun k i => impl_PlaceOk.l0 k l l (l.length : Int) (i : Int) = some ((l.drop i).all slotOk && decide (l.length ≤ 20))) ?_ ?_
 ·intro k
  simp only [impl_PlaceOk.l0]; rw [if_neg (by omega), List.drop_length]; simp only [List.all_nil, Bool.true_and]
  congr 1; exact decide_eq_decide.mpr (by omega)
 ·intro k i hi ih
  simp only [impl_PlaceOk.l0]; rw [if_pos (by omega), if_pos (by omega), if_pos (by omega), rd_slot hi]; simp only [within_at, Option.bind_some, wnext hi hl, ih, List.all_cons, slotOk, decide_eq_true_eq]
  by_cases h0 : 0 ≤ (rd_T96 l (i : Int)).f0 ∧ (rd_T96 l (i : Int)).f0 ≤ 3
  ·by_cases h1 : 0 ≤ (rd_T96 l (i : Int)).f1 ∧ (rd_T96 l (i : Int)).f1 ≤ 103
   ·rw [if_pos h0, if_pos h1]; simp [h0, h1]
   ·rw [if_pos h0, if_neg h1]; simp [h0, h1]
  ·rw [if_neg h0]; simp [h0]
theorem impl_place_at (l : List S96) (hl : l.length ≤ 4611686018427387904) (k : Nat) (hk : l.length < k) : impl_PlaceOk.f k l = some (plOk l) := by
 have := impl_place_l l hl k 0 (by omega) (by omega)
 unfold impl_PlaceOk.f plOk
 exact this
def cmp : List S96 → List S96 → Int
 | [], [] => 0
 | [], _ :: _ => -1
 | _ :: _, [] => 1
 | x :: xs, y :: ys => if x.f0 = y.f0 ∧ x.f1 = y.f1 then cmp xs ys else if x.f0 < y.f0 ∨ (x.f0 = y.f0 ∧ x.f1 < y.f1) then -1 else 1
theorem cmp_end {a b : List S96} (i : Nat) (h : i = min a.length b.length) : cmp (a.drop i) (b.drop i) = if (a.length : Int) < (b.length : Int) then -1 else if (a.length : Int) > (b.length : Int) then 1 else 0 := by
 by_cases h1 : a.length < b.length
 ·rw [if_pos (by omega), List.drop_of_length_le (by omega : a.length ≤ i), drop_at z96 (by omega : i < b.length)]; rfl
 ·rw [if_neg (by omega), List.drop_of_length_le (by omega : b.length ≤ i)]
  by_cases h2 : b.length < a.length
  ·rw [if_pos (by omega), drop_at z96 (by omega : i < a.length)]; rfl
  ·rw [if_neg (by omega), List.drop_of_length_le (by omega : a.length ≤ i)]; rfl
theorem cmp_next {a b : List S96} {i : Nat} (ha : i < a.length) (hb : i < b.length) : cmp (a.drop i) (b.drop i) =
  (if (rd_T96 a (i : Int)).f0 = (rd_T96 b (i : Int)).f0 ∧ (rd_T96 a (i : Int)).f1 = (rd_T96 b (i : Int)).f1 then cmp (a.drop (i + 1)) (b.drop (i + 1)) else
   if (rd_T96 a (i : Int)).f0 < (rd_T96 b (i : Int)).f0 ∨ ((rd_T96 a (i : Int)).f0 = (rd_T96 b (i : Int)).f0 ∧ (rd_T96 a (i : Int)).f1 < (rd_T96 b (i : Int)).f1) then -1 else 1) := by
 rw [rd_slot ha, rd_slot hb]; rfl
theorem cmp_refl (a : List S96) : cmp a a = 0 := by
 induction a with
 | nil => rfl
 | cons x xs ih => unfold cmp; rw [if_pos ⟨rfl, rfl⟩]; exact ih
theorem cmp_zero {a b : List S96} (h : cmp a b = 0) : a = b := by
 induction a generalizing b with
 | nil => cases b with
  | nil => rfl
  | cons y ys => simp [cmp] at h
 | cons x xs ih => cases b with
  | nil => simp [cmp] at h
  | cons y ys =>
   unfold cmp at h
   by_cases e : x.f0 = y.f0 ∧ x.f1 = y.f1
   ·rw [if_pos e] at h
    rw [ih h]; obtain ⟨x0, x1⟩ := x; obtain ⟨y0, y1⟩ := y; obtain ⟨e0, e1⟩ := e; simp only at e0 e1; rw [e0, e1]
   ·rw [if_neg e] at h; split at h <;> omega
theorem cmp_neg (a b : List S96) : cmp b a = - cmp a b := by
 induction a generalizing b with
 | nil => cases b <;> rfl
 | cons x xs ih => cases b with
  | nil => rfl
  | cons y ys =>
   unfold cmp
   by_cases e : x.f0 = y.f0 ∧ x.f1 = y.f1
   ·rw [if_pos e, if_pos ⟨e.1.symm, e.2.symm⟩]; exact ih ys
   ·rw [if_neg e, if_neg (fun q => e ⟨q.1.symm, q.2.symm⟩)]
    by_cases l : x.f0 < y.f0 ∨ (x.f0 = y.f0 ∧ x.f1 < y.f1)
    ·rw [if_pos l, if_neg (by omega)]; rfl
    ·rw [if_neg l, if_pos (by omega)]
theorem impl_cmp_l (a b : List S96) (hb : b.length ≤ 4611686018427387904) : ∀ k i, i ≤ min a.length b.length → min a.length b.length - i < k → impl_placeCmp.l0 k a b ((min a.length b.length : Nat) : Int) (i : Int) = some (cmp (a.drop i) (b.drop i)) := by
 refine loop_up (fun k i => impl_placeCmp.l0 k a b ((min a.length b.length : Nat) : Int) (i : Int) = some (cmp (a.drop i) (b.drop i))) ?_ ?_
 ·intro k
  simp only [impl_placeCmp.l0]; rw [if_neg (by omega), cmp_end _ rfl]
  repeat' split
  all_goals rfl
 ·intro k i hi ih
  have ha' : i < a.length := by omega
  have hb' : i < b.length := by omega
  simp only [impl_placeCmp.l0]; rw [if_pos (by omega), if_pos (by omega), if_pos (by omega), if_pos (by omega), wnext hi (by omega), ih, cmp_next ha' hb']; generalize rd_T96 a (i : Int) = x; generalize rd_T96 b (i : Int) = y
  by_cases e : x.f0 = y.f0 ∧ x.f1 = y.f1
  ·rw [if_pos e, if_pos (by simp [e])]
  ·rw [if_neg e, if_neg (by simpa using e)]
   by_cases l : x.f0 < y.f0 ∨ (x.f0 = y.f0 ∧ x.f1 < y.f1)
   ·rw [if_pos l]
    repeat' split
    all_goals first
     | rfl
     | (exfalso; omega)
   ·rw [if_neg l]
    repeat' split
    all_goals first
     | rfl
     | (exfalso; omega)
theorem impl_cmp_at (a b : List S96) (hb : b.length ≤ 4611686018427387904) (k : Nat) (hk : min a.length b.length < k) : impl_placeCmp.f k a b = some (cmp a b) := by
 have := impl_cmp_l a b hb k 0 (by omega) (by omega)
 unfold impl_placeCmp.f
 rw [show mn (a.length : Int) (b.length : Int) = ((min a.length b.length : Nat) : Int) by unfold mn; split <;> omega]
 exact this
theorem spec_cmp_l (a b : List S96) (hb : b.length ≤ 4611686018427387904) (ha : a.length ≤ 4611686018427387904) : ∀ d i k, min a.length b.length - i = d → i ≤ min a.length b.length → 3 * d + 2 ≤ k → spec_comparePlaces.l0 k a b (i : Int) = some (cmp (a.drop i) (b.drop i)) := by
 intro d
 induction d with
 | zero =>
  intro i k hd hi hk
  obtain ⟨k, rfl⟩ : ∃ m, k = m + 2 := ⟨k - 2, by omega⟩
  have he : i = min a.length b.length := by omega
  have hj : spec_comparePlaces.j1 (k + 1) a b (i : Int) false = some (cmp (a.drop i) (b.drop i)) := by
   simp only [spec_comparePlaces.j1]; rw [if_neg (by simp), cmp_end i he]
   repeat' split
   all_goals rfl
  simp only [spec_comparePlaces.l0]
  by_cases h1 : (i : Int) < (a.length : Int)
  ·rw [if_pos h1, decide_eq_false (by omega : ¬ (i : Int) < (b.length : Int))]; exact hj
  ·rw [if_neg h1]; exact hj
 | succ d ih =>
  intro i k hd hi hk
  obtain ⟨k, rfl⟩ : ∃ m, k = m + 3 := ⟨k - 3, by omega⟩
  have ha' : i < a.length := by omega
  have hb' : i < b.length := by omega
  have hn := ih (i + 1) k (by omega) (by omega) (by omega); simp only [spec_comparePlaces.l0]; rw [if_pos (by omega), decide_eq_true (by omega : (i : Int) < (b.length : Int))]; simp only [spec_comparePlaces.j1]; rw [if_pos trivial, if_pos (by omega), if_pos (by omega), if_pos (by omega), cmp_next ha' hb']; simp only [spec_comparePlaces.j2]; rw [wnext (n := b.length) hb' hb, hn]; simp only [show (0 : Int) ≤ (i : Int) from by omega, show (i : Int) < (a.length : Int) from by omega, show (i : Int) < (b.length : Int) from by omega, if_true]; generalize rd_T96 a (i : Int) = x; generalize rd_T96 b (i : Int) = y
  by_cases e : x.f0 = y.f0 ∧ x.f1 = y.f1
  ·obtain ⟨e0, e1⟩ := e
   simp [e0, e1]
  ·rw [if_neg e]
   have hne : (!(x.f0 == y.f0) || !(x.f1 == y.f1)) = true := by
    rw [Bool.or_eq_true, Bool.not_eq_true', Bool.not_eq_true', beq_eq_false_iff_ne, beq_eq_false_iff_ne]
    by_cases h0 : x.f0 = y.f0
    ·exact Or.inr fun h1 => e ⟨h0, h1⟩
    ·exact Or.inl h0
   rw [hne]
   by_cases l : x.f0 < y.f0 ∨ (x.f0 = y.f0 ∧ x.f1 < y.f1)
   ·rw [if_pos l]
    by_cases l0 : x.f0 < y.f0
    ·simp [l0]
    ·obtain ⟨e0, e1⟩ : x.f0 = y.f0 ∧ x.f1 < y.f1 := by omega
     simp [e0, e1]
   ·rw [if_neg l]
    have l0 : ¬ x.f0 < y.f0 := by omega
    by_cases e0 : x.f0 = y.f0
    ·have l1 : ¬ x.f1 < y.f1 := by omega
     simp [e0, l1]
    ·simp [l0, e0]
theorem spec_cmp_at (a b : List S96) (ha : a.length ≤ 4611686018427387904) (hb : b.length ≤ 4611686018427387904) (k : Nat) (hk : 3 * min a.length b.length + 2 ≤ k) : spec_comparePlaces.f k a b = some (cmp a b) := by
 have := spec_cmp_l a b hb ha _ 0 k rfl (by omega) (by omega)
 unfold spec_comparePlaces.f
 exact this
def vOkS (x : S98) : Bool := vOk x.f0 x.f1 x.f2
def vsOk (l : List S98) : Bool := l.all vOkS
theorem rd_val {l : List S98} {i : Nat} (h : i < l.length) : rd_T98 l (i : Int) = l[i] := getD_at z98 h
theorem spec_vals_at (l : List S98) (hl : l.length ≤ 4611686018427387904) (m : Nat) (hm : ∀ x ∈ l, x.f2.size < m) (hm' : m ≤ 4611686018427387904) (k : Nat) (hk : l.length + m < k) : spec_validValues.f k l = some (vsOk l) := by
 unfold spec_validValues.f
 rw [all_loop l (fun k i => spec_validValues.l0 k l i) vOkS true m 1 (by omega)
  (fun k _ => by simp only [spec_validValues.l0]; rw [if_neg (by omega)])
  (fun k i h hk => by
   have hx := hm _ (List.getElem_mem h); simp only [spec_validValues.l0]
   rw [if_pos (by omega), if_pos (by omega), rd_val h, spec_val_at _ _ _ (by omega) k (by omega), bsome, wnext h hl]; rfl) k (by omega)]
 unfold vsOk; simp
theorem impl_vals_at (l : List S98) (hl : l.length ≤ 4611686018427387904) (m : Nat) (hm : ∀ x ∈ l, x.f2.size < m) (hm' : m ≤ 4611686018427387904) (k : Nat) (hk : l.length + m < k) : impl_valsOk.f k l = some (vsOk l) := by
 unfold impl_valsOk.f
 rw [all_loop l (fun k i => impl_valsOk.l0 k l (l.length : Int) i) vOkS true m 1 (by omega)
  (fun k _ => by simp only [impl_valsOk.l0]; rw [if_neg (by omega)])
  (fun k i h hk => by
   have hx := hm _ (List.getElem_mem h); simp only [impl_valsOk.l0]
   rw [if_pos (by omega), if_pos (by omega), if_pos (by omega), rd_val h, impl_valOk_at _ _ _ (by omega) k (by omega), bsome, wnext h hl]; rfl) k (by omega)]
 unfold vsOk; simp
def cellOk (x : S72) : Bool := plOk x.f0 && (decide (x.f1.length ≤ 3) && vsOk x.f1)
def cellsOk : Option (List S96) → List S72 → Bool
 | _, [] => true
 | p, c :: cs => (cellOk c && (match p with | none => true | some q => decide (cmp q c.f0 < 0))) && cellsOk (some c.f0) cs
theorem cellsOk_cons (p : Option (List S96)) (c : S72) (cs : List S72) : cellsOk p (c :: cs) = ((cellOk c && (match p with | none => true | some q => decide (cmp q c.f0 < 0))) && cellsOk (some c.f0) cs) := by cases p <;> rfl
def storeOk (l : List S72) : Bool := cellsOk none l && decide (l.length ≤ 200)
theorem rd_cell {l : List S72} {i : Nat} (h : i < l.length) : rd_T72 l (i : Int) = l[i] := getD_at z72 h
def CB (M : Nat) (c : S72) : Prop := c.f0.length ≤ M ∧ c.f1.length ≤ M ∧ ∀ v ∈ c.f1, v.f2.size ≤ M
theorem wprev {i : Nat} (h : 0 < i) (hi : i ≤ 4611686018427387904) : wrap64 ((i : Int) - 1) = ((i - 1 : Nat) : Int) := by
 rw [w64 (by omega) (by omega)]; omega
theorem spec_store_at (l : List S72) (hl : l.length ≤ 4611686018427387904) (M : Nat) (hM : M ≤ 1073741824) (hc : ∀ c ∈ l, CB M c) (k : Nat) (hk : l.length + (3 * M + 10) < k) : spec_validStore.f k l = some (storeOk l) := by
 have key := loop_s (n := l.length) (m := 3 * M + 10) (s := 1) (by omega) (fun k i => ∀ p, (i = 0 → p = none) → (∀ (h : 0 < i) (h' : i - 1 < l.length), p = some l[i - 1].f0) → spec_validStore.l0 k l (i : Int) = some (cellsOk p (l.drop i)))
  (fun k _ p _ _ => by simp only [spec_validStore.l0]; rw [if_neg (by omega), List.drop_length]; rfl)
  (fun k i h hk ih p h0 h1 => by
   obtain ⟨c0, c1, c2⟩ := hc _ (List.getElem_mem h); have ih' := ih (some l[i].f0) (by omega) (fun _ _ => by simp); simp only [spec_validStore.l0]; rw [if_pos (by omega), if_pos (by omega), rd_cell h, drop_cons h, wnext h hl, ih']; rw [spec_place_at _ (by omega) k (by omega), bsome, spec_vals_at l[i].f1 (by omega) (M + 1) (fun v hv => by have := c2 v hv; omega) (by omega) k (by omega), bsome]; rw [cellsOk_cons]; generalize hR : cellsOk (some l[i].f0) (l.drop (i + 1)) = R
   unfold cellOk
   cases hp : plOk l[i].f0
   ·simp
   by_cases hlen : l[i].f1.length ≤ 3
   ·rw [if_pos rfl, if_neg (by omega)]
    cases hv : vsOk l[i].f1
    ·simp
    rw [if_pos rfl]
    by_cases hi : i = 0
    ·subst hi
     rw [if_neg (by omega), h0 rfl]; simp [hlen]
    ·rw [if_pos (by omega), wprev (by omega) (by omega), if_pos (by omega), if_pos (by omega), rd_cell (by omega), h1 (by omega) (by omega)]
     have hlt : i - 1 < l.length := by omega
     obtain ⟨d0, d1, d2⟩ := hc _ (List.getElem_mem hlt); rw [spec_cmp_at _ _ (by omega) (by omega) k (by omega), bsome]
     by_cases hcm : cmp l[i - 1].f0 l[i].f0 < 0
     ·rw [if_neg (by omega)]; simp [hlen, hcm]
     ·rw [if_pos (by omega)]; simp [hcm]
   ·rw [if_pos rfl, if_pos (by omega)]; simp [hlen]) l.length 0 k (by omega) (by omega) (by omega) none (fun _ => rfl) (fun h _ => by omega)
 unfold spec_validStore.f storeOk
 by_cases h : (l.length : Int) > 200
 ·rw [if_pos h, show decide (l.length ≤ 200) = false from decide_eq_false (by omega), Bool.and_false]
 ·rw [if_neg h, show decide (l.length ≤ 200) = true from decide_eq_true (by omega), Bool.and_true]; exact key
theorem impl_store_at (l : List S72) (hl : l.length ≤ 4611686018427387904) (M : Nat) (hM : M ≤ 1073741824) (hc : ∀ c ∈ l, CB M c) (k : Nat) (hk : l.length + (3 * M + 10) < k) : impl_StoreOk.f k l = some (storeOk l) := by
 have key := loop_s (n := l.length) (m := 3 * M + 10) (s := 1) (by omega) (fun k i => ∀ p, (i = 0 → p = none) → (∀ (h : 0 < i) (h' : i - 1 < l.length), p = some l[i - 1].f0) → impl_StoreOk.l0 k l l (l.length : Int) (i : Int) = some (cellsOk p (l.drop i) && decide (l.length ≤ 200)))
  (fun k _ p _ _ => by
   simp only [impl_StoreOk.l0]; rw [if_neg (by omega), List.drop_length]
   unfold cellsOk; rw [Bool.true_and]; congr 1; exact decide_eq_decide.mpr (by omega))
  (fun k i h hk ih p h0 h1 => by
   obtain ⟨c0, c1, c2⟩ := hc _ (List.getElem_mem h); have ih' := ih (some l[i].f0) (by omega) (fun _ _ => by simp); simp only [impl_StoreOk.l0]; rw [if_pos (by omega), if_pos (by omega), if_pos (by omega), rd_cell h, drop_cons h, wnext h hl, ih']; rw [impl_place_at _ (by omega) k (by omega), bsome, impl_vals_at l[i].f1 (by omega) (M + 1) (fun v hv => by have := c2 v hv; omega) (by omega) k (by omega), bsome]; rw [cellsOk_cons]; generalize hR : cellsOk (some l[i].f0) (l.drop (i + 1)) = R
   unfold cellOk
   cases hp : plOk l[i].f0
   ·simp
   by_cases hlen : l[i].f1.length ≤ 3
   ·rw [if_pos rfl, if_neg (by omega)]
    cases hv : vsOk l[i].f1
    ·simp
    rw [if_pos rfl]
    by_cases hi : i = 0
    ·subst hi
     rw [if_neg (by omega), h0 rfl]; simp [hlen]
    ·rw [if_pos (by omega), wprev (by omega) (by omega), if_pos (by omega), if_pos (by omega), rd_cell (by omega), h1 (by omega) (by omega)]
     have hlt : i - 1 < l.length := by omega
     obtain ⟨d0, d1, d2⟩ := hc _ (List.getElem_mem hlt); rw [impl_cmp_at _ _ (by omega) k (by omega), bsome]
     by_cases hcm : cmp l[i - 1].f0 l[i].f0 < 0
     ·rw [if_neg (by omega)]; simp [hlen, hcm]
     ·rw [if_pos (by omega)]; simp [hcm]
   ·rw [if_pos rfl, if_pos (by omega)]; simp [hlen]) l.length 0 k (by omega) (by omega) (by omega) none (fun _ => rfl) (fun h _ => by omega)
 unfold impl_StoreOk.f storeOk
 exact key
theorem cmp_lt_trans {a b c : List S96} (h1 : cmp a b < 0) (h2 : cmp b c < 0) : cmp a c < 0 := by
 induction a generalizing b c with
 | nil => cases c with
  | nil => cases b <;> simp [cmp] at h2
  | cons z zs => simp [cmp]
 | cons x xs ih => cases b with
  | nil => simp [cmp] at h1
  | cons y ys => cases c with
   | nil => simp [cmp] at h2
   | cons z zs =>
    unfold cmp at h1 h2 ⊢
    by_cases e1 : x.f0 = y.f0 ∧ x.f1 = y.f1
    ·rw [if_pos e1] at h1
     by_cases e2 : y.f0 = z.f0 ∧ y.f1 = z.f1
     ·rw [if_pos e2] at h2
      rw [if_pos (by omega)]; exact ih h1 h2
     ·rw [if_neg e2] at h2
      by_cases l2 : y.f0 < z.f0 ∨ (y.f0 = z.f0 ∧ y.f1 < z.f1)
      ·rw [if_neg (by omega), if_pos (by omega)]; decide
      ·rw [if_neg l2] at h2; omega
    ·rw [if_neg e1] at h1
     by_cases l1 : x.f0 < y.f0 ∨ (x.f0 = y.f0 ∧ x.f1 < y.f1)
     ·by_cases e2 : y.f0 = z.f0 ∧ y.f1 = z.f1
      ·rw [if_neg (by omega), if_pos (by omega)]; decide
      ·rw [if_neg e2] at h2
       by_cases l2 : y.f0 < z.f0 ∨ (y.f0 = z.f0 ∧ y.f1 < z.f1)
       ·rw [if_neg (by omega), if_pos (by omega)]; decide
       ·rw [if_neg l2] at h2; omega
     ·rw [if_neg l1] at h1; omega
theorem cellsOk_after {q : List S96} {l : List S72} (h : cellsOk (some q) l = true) : ∀ c ∈ l, cmp q c.f0 < 0 := by
 induction l generalizing q with
 | nil => intro c hc; cases hc
 | cons d ds ih =>
  intro c hc
  rw [cellsOk_cons] at h; simp only [Bool.and_eq_true, decide_eq_true_eq] at h
  rcases List.mem_cons.1 hc with rfl | hc
  ·exact h.1.2
  ·exact cmp_lt_trans h.1.2 (ih h.2 c hc)
def stand (w : List S96) : List S72 → Nat → Option Nat
 | [], _ => none
 | c :: cs, i => if cmp c.f0 w = 0 then some i else stand w cs (i + 1)
def lowAt (w : List S96) : List S72 → Nat → Nat × Bool
 | [], i => (i, false)
 | c :: cs, i => if cmp c.f0 w < 0 then lowAt w cs (i + 1) else (i, cmp c.f0 w == 0)
theorem stand_none {w : List S96} {l : List S72} (i : Nat) (h : ∀ c ∈ l, cmp c.f0 w ≠ 0) : stand w l i = none := by
 induction l generalizing i with
 | nil => rfl
 | cons c cs ih => unfold stand; rw [if_neg (h c (by simp))]; exact ih (i + 1) (fun d hd => h d (by simp [hd]))
theorem stand_cons (w : List S96) (c : S72) (cs : List S72) (i : Nat) : stand w (c :: cs) i = if cmp c.f0 w = 0 then some i else stand w cs (i + 1) := rfl
theorem lowAt_cons (w : List S96) (c : S72) (cs : List S72) (i : Nat) : lowAt w (c :: cs) i = if cmp c.f0 w < 0 then lowAt w cs (i + 1) else (i, cmp c.f0 w == 0) := rfl
theorem lowAt_in (w : List S96) (l : List S72) (i : Nat) : i ≤ (lowAt w l i).1 ∧ (lowAt w l i).1 ≤ i + l.length ∧ ((lowAt w l i).2 = true → (lowAt w l i).1 < i + l.length) := by
 induction l generalizing i with
 | nil => exact ⟨Nat.le_refl i, Nat.le_refl i, fun h => by cases h⟩
 | cons c cs ih =>
  unfold lowAt
  split
  ·have := ih (i + 1); rw [List.length_cons]; exact ⟨by omega, by omega, fun h => by have := this.2.2 h; omega⟩
  ·rw [List.length_cons]; exact ⟨by simp, by simp, fun _ => by simp⟩
theorem spec_cellAt_at (l : List S72) (w : List S96) (hl : l.length ≤ 1048576) (hb : ∀ c ∈ l, CB 1048576 c) (hw : w.length ≤ 2097152) (k : Nat) (hk : 8388608 < k) : spec_cellAt.f k l w = some (((lowAt w l 0).1 : Int), (lowAt w l 0).2) := by
 have := loop_s (n := l.length) (m := 6291500) (s := 1) (by omega) (fun k i => spec_cellAt.l0 k l w (i : Int) = some (((lowAt w (l.drop i) i).1 : Int), (lowAt w (l.drop i) i).2))
  (fun k _ => by simp only [spec_cellAt.l0]; rw [if_neg (by omega), List.drop_length]; rfl)
  (fun k i h hk ih => by
   obtain ⟨c0, c1, c2⟩ := hb _ (List.getElem_mem h); simp only [spec_cellAt.l0]; rw [if_pos (by omega), if_pos (by omega), rd_cell h, wnext h (by omega), drop_cons h, ih, spec_cmp_at _ _ (by omega) (by omega) k (by omega), bsome, bsome]
   conv => rhs; unfold lowAt
   by_cases e : cmp l[i].f0 w < 0
   ·rw [if_pos e, if_pos e]
   ·rw [if_neg e, if_neg e]) l.length 0 k (by omega) (by omega) (by omega)
 unfold spec_cellAt.f
 exact this
theorem cellsOk_mem {p : Option (List S96)} {l : List S72} (h : cellsOk p l = true) : ∀ c ∈ l, cellOk c = true := by
 induction l generalizing p with
 | nil => intro c hc; cases hc
 | cons d ds ih =>
  intro c hc
  rw [cellsOk_cons, Bool.and_eq_true, Bool.and_eq_true] at h
  rcases List.mem_cons.1 hc with rfl | hc
  ·exact h.1.1
  ·exact ih h.2 c hc
theorem cellsOk_iff (p : Option (List S96)) (l : List S72) : cellsOk p l = true ↔ (∀ c ∈ l, cellOk c = true) ∧ l.Pairwise (fun a b => cmp a.f0 b.f0 < 0) ∧ (∀ q, p = some q → ∀ c ∈ l, cmp q c.f0 < 0) := by
 constructor
 ·intro h
  refine ⟨cellsOk_mem h, ?_, fun q hq => by subst hq; exact cellsOk_after h⟩
  induction l generalizing p with
  | nil => exact List.Pairwise.nil
  | cons c cs ih =>
   rw [cellsOk_cons, Bool.and_eq_true] at h
   exact List.Pairwise.cons (cellsOk_after h.2) (ih _ h.2)
 ·induction l generalizing p with
  | nil => intro _; rfl
  | cons c cs ih =>
   rintro ⟨h1, h2, h3⟩
   obtain ⟨h4, h5⟩ := List.pairwise_cons.1 h2; rw [cellsOk_cons, h1 c (by simp), ih (some c.f0) ⟨fun d hd => h1 d (by simp [hd]), h5, fun q hq => by cases hq; exact h4⟩]
   cases p with
   | none => rfl
   | some q => simp [h3 q rfl c (by simp)]
theorem storeOk_iff (l : List S72) : storeOk l = true ↔ (∀ c ∈ l, cellOk c = true) ∧ l.Pairwise (fun a b => cmp a.f0 b.f0 < 0) ∧ l.length ≤ 200 := by
 unfold storeOk
 rw [Bool.and_eq_true, cellsOk_iff, decide_eq_true_eq]
 exact ⟨fun h => ⟨h.1.1, h.1.2.1, h.2⟩, fun h => ⟨⟨h.1, h.2.1, fun q hq => by cases hq⟩, h.2.2⟩⟩
def isAt (w : List S96) (c : S72) : Bool := cmp c.f0 w == 0
def setS (w : List S96) (v : List S98) : List S72 → List S72
 | [] => [⟨w, v⟩]
 | c :: cs => if cmp w c.f0 = 0 then ⟨w, v⟩ :: cs else if cmp w c.f0 < 0 then ⟨w, v⟩ :: c :: cs else c :: setS w v cs
theorem setS_cons (w : List S96) (v : List S98) (c : S72) (cs : List S72) : setS w v (c :: cs) = if cmp w c.f0 = 0 then ⟨w, v⟩ :: cs else if cmp w c.f0 < 0 then ⟨w, v⟩ :: c :: cs else c :: setS w v cs := rfl
theorem setS_low (w : List S96) (v : List S98) (l : List S72) (i : Nat) : l.take ((lowAt w l i).1 - i) ++ ((⟨w, v⟩ : S72) :: l.drop ((if (lowAt w l i).2 = true then (lowAt w l i).1 + 1 else (lowAt w l i).1) - i)) = setS w v l := by
 induction l generalizing i with
 | nil => simp [lowAt, setS]
 | cons c cs ih =>
  have hn := cmp_neg c.f0 w
  by_cases h : cmp c.f0 w < 0
  ·have e : lowAt w (c :: cs) i = lowAt w cs (i + 1) := by rw [lowAt_cons, if_pos h]
   have e0 : setS w v (c :: cs) = c :: setS w v cs := by rw [setS_cons, if_neg (show ¬ cmp w c.f0 = 0 by omega), if_neg (show ¬ cmp w c.f0 < 0 by omega)]
   rw [e, e0, ← ih (i + 1)]; obtain ⟨h2, -, -⟩ := lowAt_in w cs (i + 1); generalize lowAt w cs (i + 1) = p at *; obtain ⟨a, b⟩ := p; simp only at h2 ⊢; rw [show a - i = (a - (i + 1)) + 1 by omega, List.take_succ_cons]; cases b
   ·rw [if_neg (show ¬ (false = true) by decide), show a - i = (a - (i + 1)) + 1 by omega, List.drop_succ_cons, List.cons_append]
   ·rw [if_pos (show true = true from rfl), show a + 1 - i = (a + 1 - (i + 1)) + 1 by omega, List.drop_succ_cons, List.cons_append]
  ·by_cases h0 : cmp c.f0 w = 0
   ·have e : lowAt w (c :: cs) i = (i, true) := by rw [lowAt_cons, if_neg h, h0]; rfl
    have e0 : setS w v (c :: cs) = ⟨w, v⟩ :: cs := by rw [setS_cons, if_pos (show cmp w c.f0 = 0 by omega)]
    rw [e, e0]; simp
   ·have e : lowAt w (c :: cs) i = (i, false) := by rw [lowAt_cons, if_neg h, beq_eq_false_iff_ne.mpr h0]
    have e0 : setS w v (c :: cs) = ⟨w, v⟩ :: c :: cs := by rw [setS_cons, if_neg (show ¬ cmp w c.f0 = 0 by omega), if_pos (show cmp w c.f0 < 0 by omega)]
    rw [e, e0]; simp
theorem setS_mem {w : List S96} {v : List S98} {l : List S72} {c : S72} (h : c ∈ setS w v l) : c = ⟨w, v⟩ ∨ c ∈ l := by
 induction l with
 | nil => simpa [setS] using h
 | cons d ds ih =>
  unfold setS at h
  split at h
  ·rcases List.mem_cons.1 h with h | h
   ·exact .inl h
   ·exact .inr (by simp [h])
  ·split at h
   ·rcases List.mem_cons.1 h with h | h
    ·exact .inl h
    ·exact .inr h
   ·rcases List.mem_cons.1 h with h | h
    ·exact .inr (by simp [h])
    ·rcases ih h with h | h
     ·exact .inl h
     ·exact .inr (by simp [h])
theorem setS_length (w : List S96) (v : List S98) (l : List S72) : (setS w v l).length ≤ l.length + 1 := by
 induction l with
 | nil => simp [setS]
 | cons d ds ih =>
  rw [setS_cons]
  split
  ·simp
  ·split
   ·simp
   ·simp; omega
def notAt (w : List S96) (c : S72) : Bool := !(isAt w c)
def Src (l : List Int) (a f : Int) : Prop := (∀ x ∈ l, 0 ≤ x ∧ x ≤ 255) ∧ 0 ≤ a ∧ 0 ≤ f ∧ a + 2 * f ≤ 8000
theorem rd_in {l : List Int} {i : Int} (h0 : 0 ≤ i) (h1 : i < (l.length : Int)) : rd l i ∈ l := by
 have h : i.toNat < l.length := by omega
 unfold rd
 rw [List.getD_eq_getElem?_getD, List.getElem?_eq_getElem h]
 exact List.getElem_mem h
theorem pick_tells {l : List Int} {a f : Int} (n : Int) (h : Src l a f) (k : Nat) (hk : 0 < k) :
  ∃ v a' f', spec_source_pick.f k l a f n = some (v, a', f') ∧ 0 ≤ v ∧ (v < n ∨ v = 0) ∧ Src l a' f' := by
 obtain ⟨hb, ha, hf, haf⟩ := h; obtain ⟨k, rfl⟩ : ∃ m, k = m + 1 := ⟨k - 1, by omega⟩
 have stop : ∃ v a' f', spec_source_pick.j0 (k + 1) n true l a f = some (v, a', f') ∧ 0 ≤ v ∧ (v < n ∨ v = 0) ∧ Src l a' f' :=
  ⟨0, a, f, by simp [spec_source_pick.j0], by omega, Or.inr rfl, hb, ha, hf, haf⟩
 unfold spec_source_pick.f
 by_cases h1 : n ≤ 1
 ·rw [if_pos h1]; exact stop
 rw [if_neg h1]
 by_cases h2 : f ≤ 0
 ·rw [if_pos h2]; exact stop
 rw [if_neg h2]
 by_cases h3 : (l.length : Int) = 0
 ·rw [show ((l.length : Int) == 0) = true from beq_iff_eq.mpr h3]; exact stop
 rw [show ((l.length : Int) == 0) = false from beq_eq_false_iff_ne.mpr h3]
 have hl : 0 < (l.length : Int) := by omega
 have m0 : 0 ≤ Int.tmod a (l.length : Int) := Int.tmod_nonneg _ ha; have m1 : Int.tmod a (l.length : Int) < (l.length : Int) := Int.tmod_lt_of_pos _ hl; have q0 : 0 ≤ Int.tdiv a (l.length : Int) := Int.tdiv_nonneg ha (by omega)
 have q1 : Int.tdiv a (l.length : Int) ≤ 8000 := by
  rw [Int.tdiv_eq_ediv_of_nonneg ha]; have := Int.ediv_le_self (l.length : Int) ha
  omega
 have v0 := hb _ (rd_in m0 m1); simp only [spec_source_pick.j0]; rw [if_neg (by simp), if_neg h3, if_pos m0, if_pos m1]; generalize Int.tdiv a (l.length : Int) = q at *; generalize rd l (Int.tmod a (l.length : Int)) = x at *
 rw [w64 (n := a + 1) (by omega) (by omega), w64 (n := f - 1) (by omega) (by omega), w64 (n := x) (by omega) (by omega),
  w64 (n := q) (by omega) (by omega), w64 (n := q * 31) (by omega) (by omega), w64 (n := x + q * 31) (by omega) (by omega)]
 by_cases h4 : n > 256
 ·have m0' : 0 ≤ Int.tmod (a + 1) (l.length : Int) := Int.tmod_nonneg _ (by omega)
  have m1' : Int.tmod (a + 1) (l.length : Int) < (l.length : Int) := Int.tmod_lt_of_pos _ hl; have v1 := hb _ (rd_in m0' m1'); generalize rd l (Int.tmod (a + 1) (l.length : Int)) = y at *
  rw [if_pos h4, if_pos m0', if_pos m1', if_neg (by omega), w64 (n := y) (by omega) (by omega),
   w64 (n := (x + q * 31) * 256) (by omega) (by omega), w64 (n := (x + q * 31) * 256 + y) (by omega) (by omega),
   w64 (n := a + 1 + 1) (by omega) (by omega)]
  exact ⟨_, _, _, rfl, Int.tmod_nonneg _ (by omega), Or.inl (Int.tmod_lt_of_pos _ (by omega)), hb, by omega, by omega, by omega⟩
 ·rw [if_neg h4, if_neg (by omega)]
  exact ⟨_, _, _, rfl, Int.tmod_nonneg _ (by omega), Or.inl (Int.tmod_lt_of_pos _ (by omega)), hb, by omega, by omega, by omega⟩
theorem src_new {l : List Int} (h : ∀ x ∈ l, (Lit.int .u8 x).wf = true) : Src l 0 4000 := by
 refine ⟨fun x hx => ?_, by omega, by omega, by omega⟩
 have := h x hx; simp only [Lit.wf, IntKind.min, IntKind.max, IntKind.signed, IntKind.bits, Bool.and_eq_true, decide_eq_true_eq] at this
 simp at this
 omega
theorem one_tells {l : List Int} {a f : Int} (l1 : List Int) (hl : l1 ≠ []) (h : Src l a f) (k : Nat) (hk : 0 < k) :
  ∃ v a' f', spec_source_one.f k l a f l1 = some (v, a', f') ∧ v ∈ l1 ∧ Src l a' f' := by
 obtain ⟨v, a', f', he, h0, h1, hs⟩ := pick_tells (l1.length : Int) h k hk
 have hp : 0 < (l1.length : Int) := by
  have := List.length_pos_iff.mpr hl
  omega
 have hv : v < (l1.length : Int) := by omega
 refine ⟨rd l1 v, a', f', ?_, rd_in h0 hv, hs⟩
 unfold spec_source_one.f
 rw [he]; simp only [Option.bind_some]; rw [if_pos h0, if_pos hv]
theorem rarely_tells {l : List Int} {a f : Int} (h : Src l a f) (k : Nat) (hk : 0 < k) : ∃ v a' f', spec_source_rarely.f k l a f = some (v, a', f') ∧ Src l a' f' := by
 obtain ⟨v, a', f', he, -, -, hs⟩ := pick_tells 40 h k hk
 refine ⟨(v == 1), a', f', ?_, hs⟩
 unfold spec_source_rarely.f
 rw [he, bsome]
theorem slots_l {l : List Int} : ∀ (n k : Nat) (acc : List S96) (a f : Int), Src l a f → n + 1 < k → acc.length + n ≤ 1000 → ∃ r a' f', spec_source_slots.l0 k acc (n : Int) l a f = some (r, a', f') ∧ r.length ≤ acc.length + n + 1 ∧ Src l a' f' := by
 intro n
 induction n with
 | zero =>
  intro k acc a f h hk hn
  obtain ⟨k, rfl⟩ : ∃ m, k = m + 1 := ⟨k - 1, by omega⟩; simp only [spec_source_slots.l0]; rw [if_neg (by omega)]; obtain ⟨v, a1, f1, e1, s1⟩ := rarely_tells h k (by omega); rw [e1]; simp only [Option.bind_some]
  cases v with
  | true =>
   obtain ⟨u, a2, f2, e2, -, s2⟩ := one_tells [-1, 4] (by simp) s1 k (by omega); rw [if_pos rfl, e2]; simp only [Option.bind_some]; rw [if_pos (by omega)]
   exact ⟨_, _, _, rfl, by simp, s2⟩
  | false =>
   rw [if_neg (by simp)]
   exact ⟨_, _, _, rfl, by omega, s1⟩
 | succ n ih =>
  intro k acc a f h hk hn
  obtain ⟨k, rfl⟩ : ∃ m, k = m + 1 := ⟨k - 1, by omega⟩; simp only [spec_source_slots.l0]; rw [if_pos (by omega)]; obtain ⟨u1, a1, f1, e1, -, s1⟩ := one_tells [0, 0, 1, 2, 3] (by simp) h k (by omega); rw [e1]; simp only [Option.bind_some]; obtain ⟨u2, a2, f2, e2, -, s2⟩ := one_tells [0, 0, 1, 3, 4, 9, 103] (by simp) s1 k (by omega); rw [e2]; simp only [Option.bind_some]; rw [if_pos (by omega), w64 (by omega) (by omega), show ((n + 1 : Nat) : Int) - 1 = (n : Int) by omega]; obtain ⟨r, a', f', er, hr, sr⟩ := ih k (acc ++ [⟨u1, u2⟩]) a2 f2 s2 (by omega) (by simp; omega)
  exact ⟨r, a', f', er, by simp at hr; omega, sr⟩
theorem slots_tells {l : List Int} {a f : Int} (h : Src l a f) (k : Nat) (hk : 30 < k) : ∃ r a' f', spec_source_slots.f k l a f = some (r, a', f') ∧ r.length ≤ 30 ∧ Src l a' f' := by
 unfold spec_source_slots.f
 obtain ⟨v1, a1, f1, e1, p1, q1, s1⟩ := pick_tells 22 h k (by omega); rw [e1]; simp only [Option.bind_some]; obtain ⟨v2, a2, f2, e2, m2, s2⟩ := one_tells [0, 1, 2, 3, v1] (by simp) s1 k (by omega); rw [e2]; simp only [Option.bind_some]
 have hv : 0 ≤ v2 ∧ v2 ≤ 21 := by simp at m2; omega
 obtain ⟨r, a3, f3, e3, h3, s3⟩ := slots_l v2.toNat k ([] : List S96) a2 f2 s2 (by omega) (by simp; omega); rw [show ((v2.toNat : Nat) : Int) = v2 by omega] at e3
 exact ⟨r, a3, f3, e3, by simp at h3; omega, s3⟩
theorem rdOf_in {α : Type} {d : α} {l : List α} {i : Int} (h0 : 0 ≤ i) (h1 : i < (l.length : Int)) : rdOf d l i ∈ l := by
 have h : i.toNat < l.length := by omega
 unfold rdOf
 rw [List.getD_eq_getElem?_getD, List.getElem?_eq_getElem h]
 exact List.getElem_mem h
theorem size_append (a b : ByteArray) : (a ++ b).size = a.size + b.size := ByteArray.size_append
theorem text_l {l : List Int} : ∀ (n k : Nat) (acc : ByteArray) (a f : Int), Src l a f → n + 1 < k → acc.size + 4 * n ≤ 1000 → ∃ r a' f', spec_source_text.l0 k acc (n : Int) l a f = some (r, a', f') ∧ r.size ≤ acc.size + 4 * n + 1 ∧ Src l a' f' := by
 intro n
 induction n with
 | zero =>
  intro k acc a f h hk hn
  obtain ⟨k, rfl⟩ : ∃ m, k = m + 1 := ⟨k - 1, by omega⟩; simp only [spec_source_text.l0]; rw [if_neg (by omega)]; obtain ⟨v, a1, f1, e1, s1⟩ := rarely_tells h k (by omega); rw [e1, bsome]
  cases v with
  | true =>
   rw [if_pos rfl, if_pos (by omega)]
   exact ⟨_, _, _, rfl, by rw [size_append]; exact Nat.le_refl _, s1⟩
  | false =>
   rw [if_neg (by simp)]
   exact ⟨_, _, _, rfl, by omega, s1⟩
 | succ n ih =>
  intro k acc a f h hk hn
  obtain ⟨k, rfl⟩ : ∃ m, k = m + 1 := ⟨k - 1, by omega⟩; simp only [spec_source_text.l0]; rw [if_pos (by omega), bsome]; obtain ⟨u1, a1, f1, e1, p1, q1, s1⟩ := pick_tells 6 h k (by omega); rw [e1, bsome]; generalize hy : ([(⟨#[97]⟩ : ByteArray), (⟨#[98]⟩ : ByteArray), (⟨#[122, 57]⟩ : ByteArray), (⟨#[32]⟩ : ByteArray), (⟨#[48]⟩ : ByteArray), (⟨#[108, 111, 110, 103]⟩ : ByteArray)] : List ByteArray) = y
  have hyl : y.length = 6 := by subst hy; rfl
  have hys : ∀ b ∈ y, b.size ≤ 4 := by
   subst hy
   intro b hb
   simp only [List.mem_cons, List.not_mem_nil, or_false] at hb
   rcases hb with rfl | rfl | rfl | rfl | rfl | rfl <;> decide
  have hu : u1 < (y.length : Int) := by omega
  have hb := hys _ (rdOf_in (d := ByteArray.empty) p1 hu); rw [if_pos p1, if_pos hu]; generalize rdOf ByteArray.empty y u1 = b at *; rw [if_pos (by omega), w64 (by omega) (by omega), show ((n + 1 : Nat) : Int) - 1 = (n : Int) by omega]; obtain ⟨r, a', f', er, hr, sr⟩ := ih k (acc ++ b) a1 f1 s1 (by omega) (by rw [size_append]; omega)
  exact ⟨r, a', f', er, by rw [size_append] at hr; omega, sr⟩
theorem text_tells {l : List Int} {a f : Int} (h : Src l a f) (k : Nat) (hk : 10 < k) : ∃ r a' f', spec_source_text.f k l a f = some (r, a', f') ∧ r.size ≤ 20 ∧ Src l a' f' := by
 unfold spec_source_text.f
 obtain ⟨v1, a1, f1, e1, p1, q1, s1⟩ := pick_tells 4 h k (by omega); rw [e1, bsome]; obtain ⟨r, a3, f3, e3, h3, s3⟩ := text_l v1.toNat k (⟨#[]⟩ : ByteArray) a1 f1 s1 (by omega) (by show 0 + 4 * v1.toNat ≤ 1000; omega); rw [show ((v1.toNat : Nat) : Int) = v1 by omega] at e3
 refine ⟨r, a3, f3, e3, ?_, s3⟩
 have h0 : (⟨#[]⟩ : ByteArray).size = 0 := rfl
 omega
theorem value_tells {l : List Int} {a f : Int} (h : Src l a f) (k : Nat) (hk : 10 < k) : ∃ x y z a' f', spec_source_value.f k l a f = some (x, y, z, a', f') ∧ z.size ≤ 20 ∧ (-1001 ≤ y ∧ y ≤ 1001) ∧ (0 ≤ x ∧ x ≤ 2) ∧ Src l a' f' := by
 unfold spec_source_value.f
 obtain ⟨v1, a1, f1, e1, p1, q1, s1⟩ := pick_tells 6 h k (by omega); rw [e1, bsome]
 have h0 : (⟨#[]⟩ : ByteArray).size ≤ 20 := by decide
 by_cases c0 : v1 = 0
 ·rw [if_pos c0]; exact ⟨_, _, _, _, _, rfl, h0, by omega, by omega, s1⟩
 rw [if_neg c0]
 by_cases c1 : v1 = 1
 ·rw [if_pos c1]
  obtain ⟨r, a2, f2, e2, h2, s2⟩ := text_tells s1 k hk; rw [e2, bsome]; exact ⟨_, _, _, _, _, rfl, h2, by omega, by omega, s2⟩
 rw [if_neg c1]
 by_cases c2 : v1 = 2
 ·rw [if_pos c2]
  obtain ⟨v2, a2, f2, e2, m2, s2⟩ := one_tells [0, 1, -1, 1000, -1000, 500, 1001] (by simp) s1 k (by omega); rw [e2, bsome]
  refine ⟨_, _, _, _, _, rfl, h0, ?_, by omega, s2⟩
  simp at m2; omega
 rw [if_neg c2]; obtain ⟨v2, a2, f2, e2, p2, q2, s2⟩ := pick_tells 6 s1 k (by omega); rw [e2, bsome]
 refine ⟨_, _, _, _, _, rfl, h0, ?_, by omega, s2⟩
 rw [w64 (by omega) (by omega)]; omega
theorem good_tells {l : List Int} {a f : Int} (h : Src l a f) (k : Nat) (hk : 30 < k) : ∃ x y z a' f', spec_source_good.f k l a f = some (x, y, z, a', f') ∧ z.size ≤ 20 ∧ (-1001 ≤ y ∧ y ≤ 1001) ∧ (0 ≤ x ∧ x ≤ 2) ∧ Src l a' f' := by
 unfold spec_source_good.f
 obtain ⟨x, y, z, a1, f1, e1, h1, h2, h3, s1⟩ := value_tells h k (by omega); rw [e1, bsome, spec_val_at x y z (by omega) k (by omega), bsome]
 have h0 : (⟨#[]⟩ : ByteArray).size ≤ 20 := by decide
 split
 ·exact ⟨_, _, _, _, _, rfl, h1, h2, h3, s1⟩
 ·exact ⟨_, _, _, _, _, rfl, h0, by omega, by omega, s1⟩
theorem spec_copyCell_at (a : List S96) (b : List S98) (ha : a.length ≤ 1048576) (hb : b.length ≤ 1048576) : spec_copyCell.f a b = some (a, b) := by
 unfold spec_copyCell.f
 rw [bsome, if_pos (by simp only [List.length_nil]; omega), bsome, if_pos (by simp only [List.length_nil]; omega)]; rfl
theorem app_loop {α β : Type} (xs : List α) (F : Nat → List β → Int → Option (List β)) (c : α → List β) (m s : Nat) (hs : 0 < s)
  (hend : ∀ k acc, m ≤ k → F (k + 1) acc (xs.length : Int) = some acc)
  (hstep : ∀ k (acc : List β) i (h : i < xs.length), m ≤ k → acc.length ≤ ((xs.take i).map (fun x => (c x).length)).sum → F (k + s) acc (i : Int) = F k (acc ++ c xs[i]) ((i + 1 : Nat) : Int)) :
  ∀ k, xs.length * s + m < k → F k [] 0 = some (xs.flatMap c) := by
 intro k hk
 have := loop_s (n := xs.length) (m := m) (s := s) hs (fun k i => ∀ p : List β, p.length ≤ ((xs.take i).map (fun x => (c x).length)).sum → F k p (i : Int) = some (p ++ (xs.drop i).flatMap c))
  (fun k hm p hp => by rw [hend k _ hm]; simp)
  (fun k i h hm ih p hp => by
   rw [hstep k _ i h hm hp, ih (p ++ c xs[i]) (by rw [List.length_append, List.take_succ_eq_append_getElem h, List.map_append, List.sum_append]; simp only [List.map_cons, List.map_nil, List.sum_cons, List.sum_nil]; omega), drop_cons h, List.flatMap_cons, List.append_assoc]) xs.length 0 k (by omega) (by omega) hk [] (by simp)
 simpa using this
theorem sum_le {α : Type} (xs : List α) (f : α → Nat) (h : ∀ x, f x ≤ 1) : (xs.map f).sum ≤ xs.length := by
 induction xs with
 | nil => simp
 | cons x xs ih => rw [List.map_cons, List.sum_cons, List.length_cons]; have := h x; omega
theorem take_sum {α : Type} (xs : List α) (f : α → Nat) (h : ∀ x, f x ≤ 1) (i : Nat) : ((xs.take i).map f).sum ≤ xs.length := Nat.le_trans (sum_le _ f h) (by rw [List.length_take]; omega)
theorem flat_one {α : Type} (xs : List α) : xs.flatMap (fun x => [x]) = xs := by induction xs with
 | nil => rfl
 | cons x xs ih => rw [List.flatMap_cons, ih]; rfl
theorem spec_copyStore_at (l : List S72) (hl : l.length ≤ 1048576) (hc : ∀ c ∈ l, CB 1048576 c) (k : Nat) (hk : l.length < k) : spec_copyStore.f k l = some l := by
 unfold spec_copyStore.f
 have := app_loop l (fun k acc i => spec_copyStore.l0 k l acc i) (fun x => [x]) 0 1 (by omega)
  (fun k acc _ => by simp only [spec_copyStore.l0]; rw [if_neg (by omega)])
  (fun k acc i h _ ha => by
   have := take_sum l (fun _ => 1) (by simp) i; obtain ⟨c0, c1, c2⟩ := hc _ (List.getElem_mem h); simp only [List.length_singleton] at ha; simp only [spec_copyStore.l0]
   rw [if_pos (by omega), if_pos (by omega), rd_cell h, spec_copyCell_at _ _ (by omega) (by omega), bsome, if_pos (by omega), wnext h (by omega)]) k (by omega)
 rw [flat_one] at this; exact this
theorem spec_put_at (l : List S72) (w : List S96) (v : List S98) (hl : l.length ≤ 1000000) (hc : ∀ c ∈ l, CB 1048576 c) (hw : w.length ≤ 1048576) (hv : v.length ≤ 1048576) (k : Nat) (hk : 8388608 < k) : spec_put.f k l w v = some (setS w v l) := by
 unfold spec_put.f
 rw [spec_cellAt_at l w (by omega) hc (by omega) k (by omega), bsome]; have hS := setS_low w v l 0; obtain ⟨h2, h3, h4⟩ := lowAt_in w l 0; generalize lowAt w l 0 = p at *; obtain ⟨i, ok⟩ := p; simp only at h2 h3 h4 hS ⊢
 have hi : i ≤ l.length := by omega
 rw [if_pos (by omega), if_pos (by omega)]
 have e1 : ((i : Int)).toNat = i := by omega
 rw [e1, spec_copyStore_at (l.take i) (by rw [List.length_take]; omega) (fun c hq => hc c (List.mem_of_mem_take hq)) k (by rw [List.length_take]; omega), bsome, spec_copyCell_at w v hw hv, bsome, if_pos (by rw [List.length_take]; omega), bsome]
 have hlen : (l.take i ++ [(⟨w, v⟩ : S72)]).length ≤ 1048577 := by rw [List.length_append, List.length_take]; simp; omega
 have hap : ∀ j, l.take i ++ [(⟨w, v⟩ : S72)] ++ l.drop j = l.take i ++ ((⟨w, v⟩ : S72) :: l.drop j) := fun j => by simp
 cases ok
 ·rw [if_neg (by simp)]
  rw [spec_copyStore_at (l.drop i) (by rw [List.length_drop]; omega) (fun c hq => hc c (List.mem_of_mem_drop hq)) k (by rw [List.length_drop]; omega), bsome, if_pos (by show (l.take i ++ [(⟨w, v⟩ : S72)]).length + _ < _; rw [List.length_drop]; omega), hap]; rw [← hS]; simp
 ·have h5 : i < l.length := by have := h4 rfl; omega
  rw [if_pos rfl, wnext h5 (by omega), if_pos (by omega), if_pos (by omega), show (((i + 1 : Nat) : Int)).toNat = i + 1 by omega]; rw [spec_copyStore_at (l.drop (i + 1)) (by rw [List.length_drop]; omega) (fun c hq => hc c (List.mem_of_mem_drop hq)) k (by rw [List.length_drop]; omega), bsome, if_pos (by show (l.take i ++ [(⟨w, v⟩ : S72)]).length + _ < _; rw [List.length_drop]; omega), hap]; rw [← hS]; simp
theorem goods_l {l : List Int} : ∀ (n k : Nat) (acc : List S98) (a f : Int), Src l a f → n + 40 < k → acc.length + n ≤ 1000 → (∀ v ∈ acc, v.f2.size ≤ 20) → ∃ r a' f', spec_source_goods.l0 k (n : Int) acc l a f = some (r, a', f') ∧ r.length ≤ acc.length + n ∧ (∀ v ∈ r, v.f2.size ≤ 20) ∧ Src l a' f' := by
 intro n
 induction n with
 | zero =>
  intro k acc a f h hk hn ha
  obtain ⟨k, rfl⟩ : ∃ m, k = m + 1 := ⟨k - 1, by omega⟩; simp only [spec_source_goods.l0]; rw [if_neg (by omega)]
  exact ⟨_, _, _, rfl, by omega, ha, h⟩
 | succ n ih =>
  intro k acc a f h hk hn ha
  obtain ⟨k, rfl⟩ : ∃ m, k = m + 1 := ⟨k - 1, by omega⟩; simp only [spec_source_goods.l0]; rw [if_pos (by omega)]; obtain ⟨x, y, z, a1, f1, e1, h1, -, -, s1⟩ := good_tells h k (by omega); rw [e1, bsome, if_pos (by omega), w64 (by omega) (by omega), show ((n + 1 : Nat) : Int) - 1 = (n : Int) by omega]
  obtain ⟨r, a', f', er, hr, hr', sr⟩ := ih k (acc ++ [⟨x, y, z⟩]) a1 f1 s1 (by omega) (by simp; omega) (fun v hv => by
   rcases List.mem_append.1 hv with hv | hv
   ·exact ha v hv
   ·simp at hv; subst hv; exact h1)
  exact ⟨r, a', f', er, by simp at hr; omega, hr', sr⟩
theorem goods_tells {l : List Int} {a f : Int} (n : Int) (hn : 0 ≤ n ∧ n ≤ 10) (h : Src l a f) (k : Nat) (hk : 60 < k) : ∃ r a' f', spec_source_goods.f k l a f n = some (r, a', f') ∧ r.length ≤ 10 ∧ (∀ v ∈ r, v.f2.size ≤ 20) ∧ Src l a' f' := by
 unfold spec_source_goods.f
 obtain ⟨r, a1, f1, e1, h1, h2, s1⟩ := goods_l n.toNat k ([] : List S98) a f h (by omega) (by simp; omega) (by simp); rw [show ((n.toNat : Nat) : Int) = n by omega] at e1
 exact ⟨r, a1, f1, e1, by simp at h1; omega, h2, s1⟩
theorem cells_l {l : List Int} : ∀ (n k : Nat) (acc : List S72) (a f : Int), Src l a f → n + 8388610 < k → acc.length + n ≤ 1000 → (∀ c ∈ acc, CB 40 c) → ∃ r a' f', spec_source_cells.l0 k acc (n : Int) l a f = some (r, a', f') ∧ r.length ≤ acc.length + n ∧ (∀ c ∈ r, CB 40 c) ∧ Src l a' f' := by
 intro n
 induction n with
 | zero =>
  intro k acc a f h hk hn ha
  obtain ⟨k, rfl⟩ : ∃ m, k = m + 1 := ⟨k - 1, by omega⟩; simp only [spec_source_cells.l0]; rw [if_neg (by omega)]
  exact ⟨_, _, _, rfl, by omega, ha, h⟩
 | succ n ih =>
  intro k acc a f h hk hn ha
  obtain ⟨k, rfl⟩ : ∃ m, k = m + 1 := ⟨k - 1, by omega⟩; simp only [spec_source_cells.l0]; rw [if_pos (by omega)]; obtain ⟨w, a1, f1, e1, h1, s1⟩ := slots_tells h k (by omega); rw [e1, bsome]; obtain ⟨v, a2, f2, e2, p2, q2, s2⟩ := pick_tells 4 s1 k (by omega); rw [e2, bsome]; obtain ⟨vs, a3, f3, e3, h3, h4, s3⟩ := goods_tells v (by omega) s2 k (by omega); rw [e3, bsome, spec_place_at w (by omega) k (by omega), bsome, w64 (by omega) (by omega), show ((n + 1 : Nat) : Int) - 1 = (n : Int) by omega]
  split
  ·rw [spec_put_at acc w vs (by omega) (fun c hc => by obtain ⟨c0, c1, c2⟩ := ha c hc; exact ⟨by omega, by omega, fun v hv => by have := c2 v hv; omega⟩) (by omega) (by omega) k (by omega), bsome]
   have hsl := setS_length w vs acc
   obtain ⟨r, a', f', er, hr, hr', sr⟩ := ih k (setS w vs acc) a3 f3 s3 (by omega) (by omega) (fun c hc => by
    rcases setS_mem hc with rfl | hc
    ·exact ⟨by show w.length ≤ 40; omega, by show vs.length ≤ 40; omega, fun v hv => by have := h4 v hv; omega⟩
    ·exact ha c hc)
   exact ⟨r, a', f', er, by omega, hr', sr⟩
  ·obtain ⟨r, a', f', er, hr, hr', sr⟩ := ih k acc a3 f3 s3 (by omega) (by omega) ha
   exact ⟨r, a', f', er, by omega, hr', sr⟩
theorem cells_tells {l : List Int} {a f : Int} (h : Src l a f) (k : Nat) (hk : 8388620 < k) : ∃ r a' f', spec_source_cells.f k l a f = some (r, a', f') ∧ r.length ≤ 10 ∧ (∀ c ∈ r, CB 40 c) ∧ Src l a' f' := by
 unfold spec_source_cells.f
 obtain ⟨v1, a1, f1, e1, p1, q1, s1⟩ := pick_tells 5 h k (by omega); rw [e1, bsome]; obtain ⟨r, a3, f3, e3, h3, h4, s3⟩ := cells_l v1.toNat k ([] : List S72) a1 f1 s1 (by omega) (by simp; omega) (by simp); rw [show ((v1.toNat : Nat) : Int) = v1 by omega] at e3
 exact ⟨r, a3, f3, e3, by simp at h3; omega, h4, s3⟩
theorem sameValues_refl (l : List S98) (hl : l.length ≤ 4611686018427387904) (k : Nat) (hk : l.length < k) : spec_sameValues.f k l l = some true := by
 have := all_loop l (fun k i => spec_sameValues.l0 k l l i) (fun _ => true) true 0 1 (by omega)
  (fun k _ => by simp only [spec_sameValues.l0]; rw [if_neg (by omega)])
  (fun k i h _ => by
   simp only [spec_sameValues.l0]; rw [if_pos (by omega), if_pos (by omega), if_pos (by omega), wnext h hl]
   simp) k (by omega)
 unfold spec_sameValues.f
 rw [if_pos rfl, this]; congr 1; simp [List.all_eq_true]
def valZ (x : S116) : Bool := x.f2.f0 == 0 && (x.f2.f1 == 0 && (x.f2.f2.toList == ([] : List UInt8)))
def numOk (x : S116) (p s t : Int) : Bool :=
 if x.f0 = 1 then decide (0 ≤ x.f1 ∧ x.f1 ≤ p - 1) else if x.f0 = 2 then decide (0 ≤ x.f1 ∧ x.f1 ≤ s - 1) else if x.f0 = 3 then decide (0 ≤ x.f1 ∧ x.f1 ≤ t - 1)
 else if x.f0 = 4 then decide (0 ≤ x.f1 ∧ x.f1 ≤ 1) else if x.f0 = 5 then decide (0 ≤ x.f1 ∧ x.f1 ≤ 6) else if x.f0 = 6 then decide (x.f1 = 0) else false
def stOk (x : S116) (p s t : Int) : Bool := if x.f0 = 0 then (decide (x.f1 = 0) && vOk x.f2.f0 x.f2.f1 x.f2.f2) else (valZ x && numOk x p s t)
def takesN (x : S116) : Int := if x.f0 = 5 then 2 else if x.f0 = 6 then 3 else 0
def fits (p s t : Int) : List S116 → Int → Bool
 | [], n => n == 1
 | x :: xs, n => if stOk x p s t = true ∧ takesN x ≤ n then fits p s t xs (n - takesN x + 1) else false
def formOk (l : List S116) (p s t : Int) : Bool := fits p s t l 0 && decide (l.length ≤ 9)
theorem takesN_in (x : S116) : 0 ≤ takesN x ∧ takesN x ≤ 3 := by
 unfold takesN
 repeat' split
 all_goals omega
theorem rd_step {l : List S116} {i : Nat} (h : i < l.length) : rd_T116 l (i : Int) = l[i] := getD_at z116 h
theorem takes_at (x : S116) : spec_takes.f x.f0 x.f1 x.f2.f0 x.f2.f1 x.f2.f2 = some (takesN x) := by
 unfold spec_takes.f takesN; repeat' split
 all_goals rfl
theorem validStep_at' (x : S116) (p s t : Int) (hp : 0 ≤ p ∧ p ≤ 1000) (hq : 0 ≤ s ∧ s ≤ 1000) (ht : 0 ≤ t ∧ t ≤ 1000) (hs : x.f2.f2.size ≤ 4611686018427387904) (k : Nat) (hk : x.f2.f2.size < k) :
  spec_validStep.f k x.f0 x.f1 x.f2.f0 x.f2.f1 x.f2.f2 p s t = some (stOk x p s t) := by
 unfold spec_validStep.f stOk numOk
 rw [w64 (n := p - 1) (by omega) (by omega), w64 (n := s - 1) (by omega) (by omega), w64 (n := t - 1) (by omega) (by omega)]; simp only [inRange_at, spec_val_at _ _ _ hs k hk, bsome]; have hz : (x.f2.f0 == 0 && (x.f2.f1 == 0 && (x.f2.f2.toList == ([] : List UInt8)))) = valZ x := rfl; rw [hz]
 by_cases e0 : x.f0 = 0
 ·rw [if_pos e0, if_pos e0]
  by_cases e : x.f1 = 0 <;> simp [e]
 rw [if_neg e0, if_neg e0]
 have fin : ∀ b : Bool, (if b = true then some (valZ x) else some false) = some (valZ x && b) := by intro b; cases b <;> simp
 by_cases e1 : x.f0 = 1
 ·rw [if_pos e1, if_pos e1, fin]
 rw [if_neg e1, if_neg e1]
 by_cases e2 : x.f0 = 2
 ·rw [if_pos e2, if_pos e2, fin]
 rw [if_neg e2, if_neg e2]
 by_cases e3 : x.f0 = 3
 ·rw [if_pos e3, if_pos e3, fin]
 rw [if_neg e3, if_neg e3]
 by_cases e4 : x.f0 = 4
 ·rw [if_pos e4, if_pos e4, fin]
 rw [if_neg e4, if_neg e4]
 by_cases e5 : x.f0 = 5
 ·rw [if_pos e5, if_pos e5, fin]
 rw [if_neg e5, if_neg e5]
 by_cases e6 : x.f0 = 6
 ·rw [if_pos e6, if_pos e6]
  by_cases e : x.f1 = 0 <;> simp [e]
 rw [if_neg e6, if_neg e6]; simp
theorem spec_form_at (l : List S116) (p s t : Int) (hp : 0 ≤ p ∧ p ≤ 1000) (hq : 0 ≤ s ∧ s ≤ 1000) (ht : 0 ≤ t ∧ t ≤ 1000) (hl : l.length ≤ 2097152) (m : Nat) (hm : ∀ x ∈ l, x.f2.f2.size < m) (hm' : m ≤ 4611686018427387904) (k : Nat) (hk : l.length + m < k) :
  spec_validForm.f k l p s t = some (formOk l p s t) := by
 have key := loop_s (n := l.length) (m := m) (s := 1) (by omega) (fun k i => ∀ n : Int, 0 ≤ n → n ≤ i → spec_validForm.l0 k l p s t n (i : Int) = some (fits p s t (l.drop i) n))
  (fun k _ n h0 h1 => by simp only [spec_validForm.l0]; rw [if_neg (by omega), List.drop_length]; rfl)
  (fun k i h hk ih n h0 h1 => by
   have hx := hm _ (List.getElem_mem h); simp only [spec_validForm.l0]; rw [if_pos (by omega), if_pos (by omega), rd_step h, drop_cons h]; generalize l[i] = x at *; simp only [validStep_at' x p s t hp hq ht (by omega) k (by omega), takes_at, bsome]; have ht := takesN_in x; rw [w64 (n := n - takesN x) (by omega) (by omega), w64 (n := n - takesN x + 1) (by omega) (by omega), wnext h (by omega)]
   unfold fits
   cases hst : stOk x p s t
   ·simp
   ·simp only [if_true, true_and]
    by_cases hn : n < takesN x
    ·rw [if_pos hn, if_neg (by omega)]
    ·rw [if_neg hn, if_pos (by omega)]; exact ih _ (by omega) (by omega)) l.length 0 k (by omega) (by omega) (by omega) 0 (by omega) (by omega)
 unfold spec_validForm.f formOk
 by_cases h : (l.length : Int) > 9
 ·rw [if_pos h, show decide (l.length ≤ 9) = false from decide_eq_false (by omega), Bool.and_false]
 ·rw [if_neg h, show decide (l.length ≤ 9) = true from decide_eq_true (by omega), Bool.and_true]; exact key
theorem leaf_tells {l : List Int} {a f : Int} (p s t : Int) (h : Src l a f) (k : Nat) (hk : 31 < k) : ∃ c d x y z a' f', spec_source_leaf.f k l a f p s t = some (c, d, x, y, z, a', f') ∧ z.size ≤ 20 ∧ Src l a' f' := by
 have h0 : (⟨#[]⟩ : ByteArray).size ≤ 20 := by decide
 have hj : ∀ (k : Nat) (a f c : Int) (b : Bool), 31 < k → Src l a f → ∃ e d x y z a' f', spec_source_leaf.j0 k p s t c b l a f = some (e, d, x, y, z, a', f') ∧ z.size ≤ 20 ∧ Src l a' f' := by
  intro k a f c b hk h
  obtain ⟨k, rfl⟩ : ∃ m, k = m + 1 := ⟨k - 1, by omega⟩; obtain ⟨x, y, z, a1, f1, e1, g1, -, -, s1⟩ := good_tells h k (by omega); simp only [spec_source_leaf.j0]
  cases b with
  | true =>
   rw [if_pos rfl]
   by_cases c0 : s > 0
   ·obtain ⟨v, a2, f2, e2, -, -, s2⟩ := pick_tells s h k (by omega)
    rw [if_pos c0, e2, bsome]; exact ⟨_, _, _, _, _, _, _, rfl, h0, s2⟩
   ·rw [if_neg c0, e1, bsome]; exact ⟨_, _, _, _, _, _, _, rfl, g1, s1⟩
  | false =>
   rw [if_neg (by simp)]
   by_cases c2 : c = 2
   ·rw [if_pos c2]
    by_cases c0 : p > 0
    ·obtain ⟨v, a2, f2, e2, -, -, s2⟩ := pick_tells p h k (by omega)
     rw [if_pos c0, e2, bsome]; exact ⟨_, _, _, _, _, _, _, rfl, h0, s2⟩
    ·rw [if_neg c0, e1, bsome]; exact ⟨_, _, _, _, _, _, _, rfl, g1, s1⟩
   rw [if_neg c2]
   by_cases c3 : c = 3
   ·rw [if_pos c3]
    by_cases c0 : t > 0
    ·obtain ⟨v, a2, f2, e2, -, -, s2⟩ := pick_tells t h k (by omega)
     rw [if_pos c0, e2, bsome]; exact ⟨_, _, _, _, _, _, _, rfl, h0, s2⟩
    ·rw [if_neg c0, e1, bsome]; exact ⟨_, _, _, _, _, _, _, rfl, g1, s1⟩
   rw [if_neg c3]
   by_cases c4 : c = 4
   ·rw [if_pos c4]
    obtain ⟨v, a2, f2, e2, -, -, s2⟩ := pick_tells 2 h k (by omega); rw [e2, bsome]; exact ⟨_, _, _, _, _, _, _, rfl, h0, s2⟩
   ·rw [if_neg c4, e1, bsome]; exact ⟨_, _, _, _, _, _, _, rfl, g1, s1⟩
 unfold spec_source_leaf.f
 obtain ⟨v, a1, f1, e1, -, -, s1⟩ := pick_tells 7 h k (by omega); rw [e1, bsome]
 split
 ·exact hj k _ _ _ _ hk s1
 ·exact hj k _ _ _ _ hk s1
def Fm (l : List S116) (n : Nat) : Prop := 1 ≤ l.length ∧ l.length ≤ n ∧ ∀ x ∈ l, x.f2.f2.size ≤ 20
theorem form_tells {l : List Int} (p s t : Int) : ∀ (d : Nat) (n : Int) (k : Nat) (a f : Int), n ≤ d → d ≤ 100 → 3 * d + 40 < k → Src l a f → ∃ r a' f', spec_source_form.f k l a f p s t n = some (r, a', f') ∧ Fm r (3 * d + 1) ∧ Src l a' f' := by
 have leaf : ∀ (n : Int) (k : Nat) (a f : Int) (m : Nat), 1 ≤ m → 36 < k → Src l a f → ∃ r a' f', spec_source_form.j0 k p s t n true l a f = some (r, a', f') ∧ Fm r m ∧ Src l a' f' := by
  intro n k a f m hm hk h
  obtain ⟨k, rfl⟩ : ∃ m, k = m + 1 := ⟨k - 1, by omega⟩; simp only [spec_source_form.j0]; obtain ⟨c, e, x, y, z, a1, f1, e1, g1, s1⟩ := leaf_tells p s t h k (by omega); rw [if_pos trivial, e1, bsome]
  refine ⟨_, _, _, rfl, ⟨by simp, by simpa using hm, ?_⟩, s1⟩
  intro q hq
  rw [List.mem_singleton.1 hq]; exact g1
 have small : ∀ (n : Int) (k : Nat) (a f : Int) (m : Nat), n < 3 → 1 ≤ m → 40 < k → Src l a f → ∃ r a' f', spec_source_form.f k l a f p s t n = some (r, a', f') ∧ Fm r m ∧ Src l a' f' := by
  intro n k a f m hn hm hk h
  obtain ⟨k, rfl⟩ : ∃ m, k = m + 1 := ⟨k - 1, by omega⟩; simp only [spec_source_form.f]; rw [if_pos hn]
  exact leaf n k a f m hm (by omega) h
 have cat : ∀ (x y : List S116) (m n : Nat), Fm x m → Fm y n → Fm (x ++ y) (m + n) := by
  rintro x y m n ⟨x1, x2, x3⟩ ⟨y1, y2, y3⟩
  refine ⟨by simp; omega, by simp; omega, fun q hq => ?_⟩
  rcases List.mem_append.1 hq with hq | hq
  ·exact x3 q hq
  ·exact y3 q hq
 have one : ∀ (c e : Int), Fm [(⟨c, e, (⟨0, 0, (⟨#[]⟩ : ByteArray)⟩ : S98)⟩ : S116)] 1 := by
  intro c e
  refine ⟨by simp, by simp, fun q hq => ?_⟩
  rw [List.mem_singleton.1 hq]; show (⟨#[]⟩ : ByteArray).size ≤ 20; decide
 intro d
 induction d using Nat.strongRecOn with
 | ind d ih =>
  intro n k a f hn hd hk h
  by_cases h3 : n < 3
  ·exact small n k a f _ h3 (by omega) (by omega) h
  obtain ⟨k, rfl⟩ : ∃ m, k = m + 3 := ⟨k - 3, by omega⟩
  have hd3 : 3 ≤ d := by omega
  obtain ⟨v, a1, f1, e1, -, -, s1⟩ := pick_tells 2 h (k + 2) (by omega); rw [show k + 3 = (k + 2) + 1 from rfl]; simp only [spec_source_form.f]; rw [if_neg h3, e1, bsome]
  cases hv : (v == 0) with
  | true => exact leaf n (k + 2) a1 f1 _ (by omega) (by omega) s1
  | false =>
   have j1 : ∀ (b : Bool) (a f : Int), Src l a f → (b = true → 3 < n) → ∃ r a' f', spec_source_form.j1 (k + 1) p s t n b l a f = some (r, a', f') ∧ Fm r (3 * d + 1) ∧ Src l a' f' := by
    intro b a f h hb
    simp only [spec_source_form.j1]; obtain ⟨r1, a1, f1, e1, m1, s1⟩ := small 1 k a f 1 (by omega) (by omega) (by omega) h
    cases b with
    | true =>
     have := hb rfl; rw [if_pos rfl, e1, bsome]; obtain ⟨r2, a2, f2, e2, m2, s2⟩ := small 1 k a1 f1 1 (by omega) (by omega) (by omega) s1; rw [e2, bsome, w64 (by omega) (by omega)]; obtain ⟨r3, a3, f3, e3, m3, s3⟩ := ih (d - 3) (by omega) (n - 3) k a2 f2 (by omega) (by omega) (by omega) s2; rw [e3, bsome]; have c1 := cat _ _ _ _ m1 m2; have c2 := cat _ _ _ _ c1 m3; have c3 := cat _ _ _ _ c2 (one 6 0); have l1 := m1.2.1; have l2 := m2.2.1; have l3 := m3.2.1; have l4 := c1.2.1; have l5 := c2.2.1; rw [if_pos (by show r1.length + r2.length < 2932031007402; omega), bsome, if_pos (by show (r1 ++ r2).length + r3.length < 2932031007402; omega), bsome, if_pos (by show (r1 ++ r2 ++ r3).length < 2932031007402; omega)]; have c4 : Fm _ (3 * d + 1) := ⟨c3.1, by have := c3.2.1; omega, c3.2.2⟩
     exact ⟨_, _, _, rfl, c4, s3⟩
    | false =>
     rw [if_neg (by simp), e1, bsome, w64 (by omega) (by omega)]; obtain ⟨r3, a3, f3, e3, m3, s3⟩ := ih (d - 2) (by omega) (n - 2) k a1 f1 (by omega) (by omega) (by omega) s1; rw [e3, bsome]; have c2 := cat _ _ _ _ m1 m3; have l1 := m1.2.1; have l3 := m3.2.1; have l5 := c2.2.1; rw [if_pos (by show r1.length + r3.length < 2932031007402; omega), bsome]; obtain ⟨v, a4, f4, e4, -, -, s4⟩ := pick_tells 7 s3 k (by omega); rw [e4, bsome, if_pos (by show (r1 ++ r3).length < 2932031007402; omega)]; have c3 := cat _ _ _ _ c2 (one 5 v); have c4 : Fm _ (3 * d + 1) := ⟨c3.1, by have := c3.2.1; omega, c3.2.2⟩
     exact ⟨_, _, _, rfl, c4, s4⟩
   rw [show k + 2 = (k + 1) + 1 from rfl]; simp only [spec_source_form.j0]; rw [if_neg (by simp)]
   by_cases h4 : n > 3
   ·rw [if_pos h4]
    obtain ⟨u, a2, f2, e2, -, -, s2⟩ := pick_tells 4 s1 (k + 1) (by omega); rw [e2, bsome]
    exact j1 _ _ _ s2 (fun _ => h4)
   ·rw [if_neg h4]
    exact j1 false _ _ s1 (fun hb => by cases hb)
def uOk (w : List S96) (st : Int) (f : List S116) (ln : Int) : Bool := plOk w && (decide (0 ≤ st ∧ st ≤ 2) && (decide (-1 ≤ ln ∧ ln ≤ 2) && formOk f 0 3 0))
theorem spec_upd_at (w : List S96) (st : Int) (f : List S116) (ln : Int) (hw : w.length ≤ 2097152) (hf : f.length ≤ 2097152) (hm : ∀ x ∈ f, x.f2.f2.size < 2097152) (k : Nat) (hk : 8388608 ≤ k) : spec_validUpdate.f k w st f ln = some (uOk w st f ln) := by
 unfold spec_validUpdate.f uOk
 simp only [inRange_at, spec_place_at w (by omega) k (by omega), spec_form_at f 0 3 0 (by omega) (by omega) (by omega) hf 2097152 hm (by omega) k (by omega), bsome, decide_eq_true_eq]
 cases plOk w <;> by_cases h1 : 0 ≤ st ∧ st ≤ 2 <;> by_cases h2 : -1 ≤ ln ∧ ln ≤ 2 <;> simp [h1, h2]
def updOk (u : S77) : Bool := uOk u.f0 u.f1 u.f2 u.f3
def UB (M : Nat) (u : S77) : Prop := u.f0.length ≤ M ∧ u.f2.length ≤ M ∧ ∀ x ∈ u.f2, x.f2.f2.size ≤ M
theorem rd_upd {l : List S77} {i : Nat} (h : i < l.length) : rd_T77 l (i : Int) = l[i] := getD_at z77 h
theorem spec_upds_at (l : List S77) (hl : l.length ≤ 1073741824) (hc : ∀ u ∈ l, UB 2097151 u) (k : Nat) (hk : l.length + 8388610 < k) : spec_validUpdates.f k l = some (decide (l.length ≤ 40) && l.all updOk) := by
 unfold spec_validUpdates.f
 by_cases h : (l.length : Int) > 40
 ·rw [if_pos h, show decide (l.length ≤ 40) = false from decide_eq_false (by omega), Bool.false_and]
 rw [if_neg h, show decide (l.length ≤ 40) = true from decide_eq_true (by omega), Bool.true_and]; have := all_loop l (fun k i => spec_validUpdates.l0 k l i) updOk true 8388608 1 (by omega)
  (fun k _ => by simp only [spec_validUpdates.l0]; rw [if_neg (by omega)])
  (fun k i h hk => by
   obtain ⟨c0, c1, c2⟩ := hc _ (List.getElem_mem h); simp only [spec_validUpdates.l0]; rw [if_pos (by omega), if_pos (by omega), rd_upd h, spec_upd_at _ _ _ _ (by omega) (by omega) (fun x hx => by have := c2 x hx; omega) k (by omega), bsome, wnext h (by omega)]
   show (if updOk l[i] = true then _ else _) = _
   rfl) k (by omega)
 rw [Bool.and_true] at this; exact this
theorem spec_apply_at (v : List S98) (w : List S96) (st : Int) (f : List S116) (ln : Int) (hv : v.length ≤ 1000) (hf : f.length ≤ 2097152) (hm : ∀ x ∈ f, x.f2.f2.size < 2097152) (k : Nat) (hk : 8388608 < k) : spec_applies.f k v w st f ln = some (decide (st < (v.length : Int)) && formOk f 0 (v.length : Int) 0) := by
 unfold spec_applies.f
 rw [spec_form_at f 0 (v.length : Int) 0 (by omega) (by omega) (by omega) hf 2097152 hm (by omega) k (by omega), bsome]
 by_cases h : st < (v.length : Int) <;> simp [h]
theorem empty_list : (⟨#[]⟩ : ByteArray).toList = ([] : List UInt8) := by kernel_rfl
def OT (v : Int × Int × ByteArray) : Prop := vOk v.1 v.2.1 v.2.2 = true ∧ v.2.2.size ≤ 40
def OV (v : S98) : Prop := vOk v.f0 v.f1 v.f2 = true ∧ v.f2.size ≤ 40
theorem zero_OT : OT (0, 0, (⟨#[]⟩ : ByteArray)) := ⟨by show vOk 0 0 _ = true; unfold vOk; rw [if_pos rfl, if_pos rfl, empty_list]; rfl, by show (⟨#[]⟩ : ByteArray).size ≤ 40; decide⟩
theorem num_OT (n : Int) (h : -1000 ≤ n ∧ n ≤ 1000) : OT (1, n, (⟨#[]⟩ : ByteArray)) := ⟨by show vOk 1 n _ = true; unfold vOk; rw [if_neg (by decide), if_pos rfl, if_pos h, empty_list]; rfl, by show (⟨#[]⟩ : ByteArray).size ≤ 40; decide⟩
theorem num_ex (n : Int) : ∃ v, spec_number.f n = some v ∧ OT v := by
 unfold spec_number.f
 rw [inRange_at, bsome]
 by_cases h : -1000 ≤ n ∧ n ≤ 1000
 ·rw [decide_eq_true h, if_pos rfl]; exact ⟨_, rfl, num_OT n h⟩
 ·rw [decide_eq_false h, if_neg (by decide)]; exact ⟨_, rfl, zero_OT⟩
theorem bool_ex (b : Bool) : ∃ v, spec_boolean.f b = some v ∧ OT v := by
 unfold spec_boolean.f
 cases b
 ·obtain ⟨v, e, h⟩ := num_ex 0
  rw [if_neg (by decide), e, bsome]; exact ⟨_, rfl, h⟩
 ·obtain ⟨v, e, h⟩ := num_ex 1
  rw [if_pos rfl, e, bsome]; exact ⟨_, rfl, h⟩
theorem dec_ex : ∀ (k u : Nat), u ≤ 100000 → u < k → ∃ s, spec_decimal.f k (u : Int) = some s ∧ s.size ≤ u + 1 := by
 intro k
 induction k with
 | zero => intro u _ h; omega
 | succ k ih =>
  intro u hu hk
  simp only [spec_decimal.f]; rw [if_neg (show ¬ (u : Int) < 0 by omega)]
  by_cases h : u < 10
  ·have hw : wrap64 ((u : Int) + 1) = ((u + 1 : Nat) : Int) := by rw [w64 (by omega) (by omega)]; omega
   rw [hw, if_pos (show (u : Int) < 10 by omega), if_pos (show (0 : Int) ≤ (u : Int) by omega), if_pos (show (u : Int) ≤ ((u + 1 : Nat) : Int) by omega), if_pos (show ((u + 1 : Nat) : Int) ≤ 10 by omega)]
   refine ⟨_, rfl, ?_⟩
   rw [ByteArray.size_extract]
   omega
  ·have e1 : wrap64 (Int.tdiv (u : Int) 10) = ((u / 10 : Nat) : Int) := by
    have : Int.tdiv (u : Int) 10 = ((u / 10 : Nat) : Int) := rfl; rw [this, w64 (by omega) (by omega)]
   have e2 : Int.tmod (u : Int) 10 = ((u % 10 : Nat) : Int) := rfl; obtain ⟨s1, h1, l1⟩ := ih (u / 10) (by omega) (by omega); obtain ⟨s2, h2, l2⟩ := ih (u % 10) (by omega) (by omega); rw [if_neg (show ¬ (u : Int) < 10 by omega), e1, e2, h1, bsome, h2, bsome, if_pos (by omega)]
   exact ⟨_, rfl, by rw [ByteArray.size_append]; omega⟩
theorem decimal_ex (n : Int) (h : -1000 ≤ n ∧ n ≤ 1000) (k : Nat) (hk : 1002 < k) : ∃ s, spec_decimal.f k n = some s ∧ s.size ≤ 1010 := by
 by_cases hn : n < 0
 ·obtain ⟨k, rfl⟩ : ∃ q, k = q + 1 := ⟨k - 1, by omega⟩
  obtain ⟨s, e, l⟩ := dec_ex k n.natAbs (by omega) (by omega); simp only [spec_decimal.f]; rw [if_pos hn, w64 (by omega) (by omega), show -n = ((n.natAbs : Nat) : Int) by omega, e, bsome, if_pos (by omega)]
  exact ⟨_, rfl, by rw [ByteArray.size_append]; show 1 + s.size ≤ 1010; omega⟩
 ·obtain ⟨s, e, l⟩ := dec_ex k n.toNat (by omega) (by omega)
  rw [show ((n.toNat : Nat) : Int) = n by omega] at e
  exact ⟨s, e, by omega⟩
theorem vOk_num {a b : Int} {s : ByteArray} (h : vOk a b s = true) (ha : a = 1) : -1000 ≤ b ∧ b ≤ 1000 := by
 subst ha
 unfold vOk at h
 rw [if_neg (by decide), if_pos rfl] at h
 by_cases hb : -1000 ≤ b ∧ b ≤ 1000
 ·exact hb
 ·rw [if_neg hb] at h; cases h
theorem show_ex (a b : Int) (s : ByteArray) (h : vOk a b s = true) (hs : s.size ≤ 40) (k : Nat) (hk : 1002 < k) : ∃ r, spec_show.f k a b s = some r ∧ r.size ≤ 1010 := by
 unfold spec_show.f
 by_cases e : a = 1
 ·obtain ⟨r, e1, h1⟩ := decimal_ex b (vOk_num h e) k hk
  rw [if_pos e, e1, bsome]; exact ⟨_, rfl, h1⟩
 ·rw [if_neg e]
  by_cases e2 : a = 2
  ·rw [if_pos e2]; exact ⟨_, rfl, by omega⟩
  ·rw [if_neg e2]; exact ⟨_, rfl, by show (⟨#[]⟩ : ByteArray).size ≤ 1010; decide⟩
theorem wordOk_size {s : ByteArray} (h : wordOk s = true) : s.size ≤ 12 := by
 unfold wordOk at h
 rw [Bool.and_eq_true, decide_eq_true_eq] at h
 exact h.2
theorem truth_ex (a b : Int) (s : ByteArray) : ∃ r, spec_truth.f a b s = some r := by
 unfold spec_truth.f
 split <;> exact ⟨_, rfl⟩
theorem do_ex (op a0 a1 : Int) (a2 : ByteArray) (b0 b1 : Int) (b2 : ByteArray) (h1 : OT (a0, a1, a2)) (h2 : OT (b0, b1, b2)) (k : Nat) (hk : 4000 < k) : ∃ v, spec_do.f k op a0 a1 a2 b0 b1 b2 = some v ∧ OT v := by
 obtain ⟨k, rfl⟩ : ∃ q, k = q + 1 := ⟨k - 1, by omega⟩
 have key : ∀ x7 : Bool, ∃ v, spec_do.j0 (k + 1) op x7 a0 a1 a2 b0 b1 b2 = some v ∧ OT v := by
  intro x7
  simp only [spec_do.j0]
  by_cases e4 : op = 4
  ·obtain ⟨v, e, h⟩ := bool_ex (a0 == b0 && (a1 == b1 && (a2.toList == b2.toList)))
   rw [if_pos e4, e, bsome]; exact ⟨_, rfl, h⟩
  rw [if_neg e4]
  by_cases e6 : op = 6
  ·obtain ⟨t, e⟩ := truth_ex a0 a1 a2
   rw [if_pos e6, e, bsome]
   split
   ·exact ⟨_, rfl, h2⟩
   ·exact ⟨_, rfl, h1⟩
  rw [if_neg e6]
  by_cases e5 : op = 5
  ·obtain ⟨s1, q1, l1⟩ := show_ex a0 a1 a2 h1.1 h1.2 k (by omega)
   obtain ⟨s2, q2, l2⟩ := show_ex b0 b1 b2 h2.1 h2.2 k (by omega); rw [if_pos e5, q1, bsome, q2, bsome, if_pos (by omega), spec_word_at _ (by rw [ByteArray.size_append]; omega) k (by rw [ByteArray.size_append]; omega), bsome]
   by_cases hw : wordOk (s1 ++ s2) = true
   ·rw [if_pos hw]
    refine ⟨_, rfl, ?_, ?_⟩
    ·show vOk 2 0 (s1 ++ s2) = true
     unfold vOk; rw [if_neg (by decide), if_neg (by decide), if_pos rfl, if_pos rfl]; exact hw
    ·show (s1 ++ s2).size ≤ 40
     have := wordOk_size hw; omega
   ·rw [if_neg hw]; exact ⟨_, rfl, zero_OT⟩
  rw [if_neg e5]; cases x7
  ·rw [if_neg (by decide)]; exact ⟨_, rfl, zero_OT⟩
  rw [if_pos rfl]
  have nums : ∀ n : Int, ∃ v, ((spec_number.f n).bind fun bt => some (bt.1, bt.2.1, bt.2.2)) = some v ∧ OT v := by
   intro n
   obtain ⟨v, e, h⟩ := num_ex n; rw [e, bsome]; exact ⟨_, rfl, h⟩
  by_cases o0 : op = 0
  ·rw [if_pos o0]; exact nums _
  rw [if_neg o0]
  by_cases o1 : op = 1
  ·rw [if_pos o1]; exact nums _
  rw [if_neg o1]
  by_cases o2 : op = 2
  ·rw [if_pos o2]; exact nums _
  rw [if_neg o2]; obtain ⟨v, e, h⟩ := bool_ex (decide (a1 < b1)); rw [e, bsome]; exact ⟨_, rfl, h⟩
 unfold spec_do.f
 split
 ·exact key _
 ·exact key _
theorem told_ex (x : S116) (st : List S98) (hx : stOk x 0 (st.length : Int) 0 = true) (h5 : x.f0 ≠ 5) (h6 : x.f0 ≠ 6) (hs : ∀ v ∈ st, OV v) (hz : x.f2.f2.size ≤ 40) :
  ∃ v, spec_told.f x.f0 x.f1 x.f2.f0 x.f2.f1 x.f2.f2 ([] : List S98) st ([] : List Int) (List.replicate 2 z98) = some v ∧ OT v := by
 unfold spec_told.f
 unfold stOk numOk at hx
 by_cases e0 : x.f0 = 0
 ·rw [if_pos e0] at hx
  simp only [Bool.and_eq_true, decide_eq_true_eq] at hx; rw [if_neg (by omega), if_neg (by omega), if_neg (by omega), if_neg (by omega)]
  exact ⟨_, rfl, hx.2, hz⟩
 rw [if_neg e0] at hx
 by_cases e1 : x.f0 = 1
 ·rw [if_pos e1] at hx
  simp only [Bool.and_eq_true, decide_eq_true_eq] at hx
  omega
 rw [if_neg e1] at hx
 by_cases e2 : x.f0 = 2
 ·rw [if_pos e2] at hx
  simp only [Bool.and_eq_true, decide_eq_true_eq] at hx; rw [if_neg e1, if_pos e2, if_pos (by omega), if_pos (by omega)]; obtain ⟨i, hi⟩ : ∃ i : Nat, x.f1 = (i : Int) := ⟨x.f1.toNat, by omega⟩
  have hl : i < st.length := by omega
  rw [hi, rd_val hl]
  exact ⟨_, rfl, hs _ (List.getElem_mem hl)⟩
 rw [if_neg e2] at hx
 by_cases e3 : x.f0 = 3
 ·rw [if_pos e3] at hx
  simp only [Bool.and_eq_true, decide_eq_true_eq] at hx
  omega
 rw [if_neg e3] at hx
 by_cases e4 : x.f0 = 4
 ·rw [if_pos e4] at hx
  simp only [Bool.and_eq_true, decide_eq_true_eq] at hx; rw [if_neg e1, if_neg e2, if_neg e3, if_pos e4, if_pos (by omega), if_pos (by rw [List.length_replicate]; omega)]; obtain ⟨i, hi⟩ : ∃ i : Nat, x.f1 = (i : Int) := ⟨x.f1.toNat, by omega⟩
  have hl : i < (List.replicate 2 z98).length := by rw [List.length_replicate]; omega
  rw [hi, rd_val hl, List.getElem_replicate]
  exact ⟨_, rfl, zero_OT⟩
 rw [if_neg e4, if_neg h5, if_neg h6] at hx
 simp at hx
theorem OV_take {l : List S98} (n : Nat) (v : S98) (h : ∀ v ∈ l, OV v) (hv : OV v) : ∀ x ∈ l.take n ++ [v], OV x := by
 intro x hx
 rcases List.mem_append.1 hx with hx | hx
 ·exact h x (List.mem_of_mem_take hx)
 ·rw [List.mem_singleton.1 hx]; exact hv
set_option maxHeartbeats 4000000 in
theorem eval_ex (f : List S116) (st : List S98) (hf : formOk f 0 (st.length : Int) 0 = true) (hs : ∀ v ∈ st, OV v) (hz : ∀ x ∈ f, x.f2.f2.size ≤ 40) (k : Nat) (hk : 5000 < k) :
  ∃ v, spec_eval.f k f ([] : List S98) st ([] : List Int) (List.replicate 2 z98) = some v ∧ OT v := by
 unfold formOk at hf
 rw [Bool.and_eq_true, decide_eq_true_eq] at hf; have key := loop_s (n := f.length) (m := 4100) (s := 1) (by omega) (fun k i => ∀ x5 : List S98, x5.length ≤ i → (∀ v ∈ x5, OV v) → fits 0 (st.length : Int) 0 (f.drop i) (x5.length : Int) = true → ∃ v, spec_eval.l0 k f x5 (i : Int) ([] : List S98) st ([] : List Int) (List.replicate 2 z98) = some v ∧ OT v)
  (fun k _ x5 hl h5 hfit => by
   rw [List.drop_length] at hfit
   have h1 : x5.length = 1 := by have : ((x5.length : Int) == 1) = true := hfit; rw [beq_iff_eq] at this; omega
   simp only [spec_eval.l0]; rw [if_neg (by omega), if_pos (by omega)]
   have h0 : 0 < x5.length := by omega
   have e := rd_val (i := 0) h0; rw [show ((0 : Nat) : Int) = 0 from rfl] at e; rw [e]
   exact ⟨_, rfl, h5 _ (List.getElem_mem h0)⟩)
  (fun k i h hk ih x5 hl h5 hfit => by
   have hx := hz _ (List.getElem_mem h); rw [drop_cons h] at hfit; simp only [spec_eval.l0]; rw [if_pos (by omega), if_pos (by omega), rd_step h, takes_at, bsome]; generalize f[i] = x at *
   unfold fits at hfit
   by_cases hc : stOk x 0 (st.length : Int) 0 = true ∧ takesN x ≤ (x5.length : Int)
   rotate_left
   ·rw [if_neg hc] at hfit; cases hfit
   rw [if_pos hc] at hfit; obtain ⟨hst, htk⟩ := hc; have ht0 := takesN_in x
   have next : ∀ v : S98, OV v → ∃ r, spec_eval.l0 k f (x5.take ((x5.length : Int) - takesN x).toNat ++ [v]) ((i + 1 : Nat) : Int) ([] : List S98) st ([] : List Int) (List.replicate 2 z98) = some r ∧ OT r := by
    intro v hv
    have hlen : (x5.take ((x5.length : Int) - takesN x).toNat ++ [v]).length = ((x5.length : Int) - takesN x).toNat + 1 := by
     rw [List.length_append, List.length_take]; simp only [List.length_cons, List.length_nil]; omega
    refine ih _ (by omega) (OV_take _ _ h5 hv) ?_
    rw [hlen, show (((((x5.length : Int) - takesN x).toNat + 1 : Nat)) : Int) = (x5.length : Int) - takesN x + 1 by omega]
    exact hfit
   rw [w64 (n := (x5.length : Int) - takesN x) (by omega) (by omega)]
   by_cases e5 : x.f0 = 5
   ·have htk2 : takesN x = 2 := by unfold takesN; rw [if_pos e5]
    obtain ⟨n, hn⟩ : ∃ n : Nat, x5.length = n + 2 := ⟨x5.length - 2, by omega⟩
    have ej : (x5.length : Int) - takesN x = (n : Int) := by omega
    rw [ej] at next ⊢; have en := Aside0.mk (show wrap64 ((n : Int) + 1) = ((n + 1 : Nat) : Int) from wnext (i := n) (n := n + 2) (by omega) (by omega)); have g1 := h5 _ (List.getElem_mem (show n < x5.length by omega)); have g2 := h5 _ (List.getElem_mem (show n + 1 < x5.length by omega)); rw [if_pos e5, if_pos (by omega), if_pos (by omega), en.out, if_pos (by omega), if_pos (by omega), rd_val (i := n) (by omega), rd_val (i := n + 1) (by omega)]; obtain ⟨v, e, hv⟩ := do_ex x.f1 _ _ _ _ _ _ g1 g2 k (by omega); rw [e, bsome, if_pos (by omega), bsome, if_pos (by rw [List.length_take]; omega), wnext h (by omega)]
    exact next ⟨v.1, v.2.1, v.2.2⟩ hv
   rw [if_neg e5]
   by_cases e6 : x.f0 = 6
   ·have htk3 : takesN x = 3 := by unfold takesN; rw [if_neg e5, if_pos e6]
    obtain ⟨n, hn⟩ : ∃ n : Nat, x5.length = n + 3 := ⟨x5.length - 3, by omega⟩
    have ej : (x5.length : Int) - takesN x = (n : Int) := by omega
    rw [ej] at next ⊢; have en := Aside0.mk (show wrap64 ((n : Int) + 1) = ((n + 1 : Nat) : Int) from wnext (i := n) (n := n + 3) (by omega) (by omega)); have en2 := Aside0.mk (show wrap64 ((n : Int) + 2) = ((n + 2 : Nat) : Int) by rw [w64 (by omega) (by omega)]; omega)
    have hn0 : n < x5.length := by omega
    have hn1 : n + 1 < x5.length := by omega
    have hn2 : n + 2 < x5.length := by omega
    obtain ⟨t, et⟩ := truth_ex x5[n].f0 x5[n].f1 x5[n].f2; rw [if_pos e6, en2.out, if_pos (by omega), if_pos (by omega), if_pos (by omega), if_pos (by omega), rd_val hn0, et, bsome, en.out]
    by_cases ht : t = true
    ·rw [if_pos ht, if_pos (by omega), if_pos (by omega), if_pos (by omega), bsome, if_pos (by rw [List.length_take]; omega), wnext h (by omega), rd_val hn1]
     exact next ⟨x5[n + 1].f0, x5[n + 1].f1, x5[n + 1].f2⟩ (h5 _ (List.getElem_mem hn1))
    ·rw [if_neg ht, if_pos (by omega), bsome, if_pos (by rw [List.length_take]; omega), wnext h (by omega), rd_val hn2]
     exact next ⟨x5[n + 2].f0, x5[n + 2].f1, x5[n + 2].f2⟩ (h5 _ (List.getElem_mem hn2))
   rw [if_neg e6]; obtain ⟨v, e, hv⟩ := told_ex x st hst e5 e6 hs hx; rw [e, bsome, if_pos (by omega), if_pos (by omega), bsome, if_pos (by rw [List.length_take]; omega), wnext h (by omega)]
   exact next ⟨v.1, v.2.1, v.2.2⟩ hv) f.length 0 k (by omega) (by omega) (by omega) [] (by simp) (by simp) (by rw [List.drop_zero]; exact hf.1)
 unfold spec_eval.f
 exact key
def SB (l : List S72) : Prop := l.length ≤ 1048576 ∧ ∀ c ∈ l, CB 1048576 c
theorem rd_store {l : List (List S72)} {i : Nat} (h : i < l.length) : rd_L7 l (i : Int) = l[i] := getD_at [] h
def histOk (n : List S72) (b a : List (List S72)) : Bool := storeOk n && (b.all storeOk && (a.all storeOk && decide (b.length + a.length ≤ 6)))
theorem spec_stores_at (l : List (List S72)) (hl : l.length ≤ 1048576) (hc : ∀ c ∈ l, SB c) (k : Nat) (hk : 8388608 < k) : spec_validStores.f k l = some (decide (l.length ≤ 6) && l.all storeOk) := by
 unfold spec_validStores.f
 by_cases h : (l.length : Int) > 6
 ·rw [if_pos h, show decide (l.length ≤ 6) = false from decide_eq_false (by omega), Bool.false_and]
 rw [if_neg h, show decide (l.length ≤ 6) = true from decide_eq_true (by omega), Bool.true_and]; have := all_loop l (fun k i => spec_validStores.l0 k l i) storeOk true 4194320 1 (by omega)
  (fun k _ => by simp only [spec_validStores.l0]; rw [if_neg (by omega)])
  (fun k i h hk => by
   obtain ⟨c0, c1⟩ := hc _ (List.getElem_mem h); simp only [spec_validStores.l0]
   rw [if_pos (by omega), if_pos (by omega), rd_store h, spec_store_at _ (by omega) 1048576 (by omega) c1 k (by omega), bsome, wnext h (by omega)]) k (by omega)
 rw [Bool.and_true] at this; exact this
theorem impl_stores_at (l : List (List S72)) (hl : l.length ≤ 1048576) (hc : ∀ c ∈ l, SB c) (k : Nat) (hk : 8388608 < k) : impl_storesOk.f k l = some (l.all storeOk) := by
 unfold impl_storesOk.f
 have := all_loop l (fun k i => impl_storesOk.l0 k l (l.length : Int) i) storeOk true 4194320 1 (by omega)
  (fun k _ => by simp only [impl_storesOk.l0]; rw [if_neg (by omega)])
  (fun k i h hk => by
   obtain ⟨c0, c1⟩ := hc _ (List.getElem_mem h); simp only [impl_storesOk.l0]
   rw [if_pos (by omega), if_pos (by omega), if_pos (by omega), rd_store h, impl_store_at _ (by omega) 1048576 (by omega) c1 k (by omega), bsome, wnext h (by omega)]) k (by omega)
 rw [Bool.and_true] at this; exact this
theorem spec_hist_at (n : List S72) (b a : List (List S72)) (hn : SB n) (hb : b.length ≤ 1048576) (hb' : ∀ c ∈ b, SB c) (ha : a.length ≤ 1048576) (ha' : ∀ c ∈ a, SB c) (k : Nat) (hk : 8388608 < k) : spec_validHist.f k n b a = some (histOk n b a) := by
 unfold spec_validHist.f histOk
 rw [spec_store_at n (by have := hn.1; omega) 1048576 (by omega) hn.2 k (by have := hn.1; omega), bsome, spec_stores_at b hb hb' k hk, bsome, spec_stores_at a ha ha' k hk, bsome, w64 (by omega) (by omega)]
 cases storeOk n <;> cases b.all storeOk <;> cases a.all storeOk <;> by_cases h1 : b.length ≤ 6 <;> by_cases h2 : a.length ≤ 6 <;> by_cases h3 : b.length + a.length ≤ 6 <;> first | omega | (simp [h1, h2, h3]; done) | (simp [h1, h2, h3]; omega)
theorem impl_hist_at (n : List S72) (b a : List (List S72)) (hn : SB n) (hb : b.length ≤ 1048576) (hb' : ∀ c ∈ b, SB c) (ha : a.length ≤ 1048576) (ha' : ∀ c ∈ a, SB c) (k : Nat) (hk : 8388608 < k) : impl_HistOk.f k n b a = some (histOk n b a) := by
 unfold impl_HistOk.f histOk
 rw [impl_store_at n (by have := hn.1; omega) 1048576 (by omega) hn.2 k (by have := hn.1; omega), bsome, impl_stores_at b hb hb' k hk, bsome, impl_stores_at a ha ha' k hk, bsome, w64 (by omega) (by omega)]
 cases storeOk n <;> cases b.all storeOk <;> cases a.all storeOk <;> by_cases h3 : b.length + a.length ≤ 6 <;> first | (simp [h3]; done) | (simp [h3]; omega)
def GS (l : List S72) : Prop := l.length ≤ 200 ∧ ∀ c ∈ l, c.f0.length ≤ 40 ∧ c.f1.length ≤ 3 ∧ ∀ v ∈ c.f1, OV v
def TB (l : List S72) : Prop := l.length ≤ 200 ∧ ∀ c ∈ l, CB 40 c
theorem TB_SB {l : List S72} (h : TB l) : SB l := ⟨by have := h.1; omega, fun c hc => by obtain ⟨a, b, d⟩ := h.2 c hc; exact ⟨by omega, by omega, fun v hv => by have := d v hv; omega⟩⟩
theorem GS_TB {l : List S72} (h : GS l) : TB l := ⟨h.1, fun c hc => by obtain ⟨a, b, d⟩ := h.2 c hc; exact ⟨a, by omega, fun v hv => (d v hv).2⟩⟩
theorem storeOk_GS {l : List S72} (h : storeOk l = true) (hb : TB l) : GS l := by
 unfold storeOk at h
 rw [Bool.and_eq_true, decide_eq_true_eq] at h
 refine ⟨h.2, fun c hc => ?_⟩
 have h1 := cellsOk_mem h.1 c hc
 unfold cellOk vsOk at h1
 simp only [Bool.and_eq_true, decide_eq_true_eq, List.all_eq_true] at h1; obtain ⟨a, b, d⟩ := hb.2 c hc
 exact ⟨a, h1.2.1, fun v hv => ⟨h1.2.2 v hv, d v hv⟩⟩
def UT (u : S77) : Prop := u.f0.length ≤ 40 ∧ u.f2.length ≤ 40 ∧ ∀ x ∈ u.f2, x.f2.f2.size ≤ 40
theorem updated_ex (st : List S98) (w : List S96) (n : Int) (f : List S116) (ln : Int) (hst : st.length ≤ 3) (hs : ∀ v ∈ st, OV v) (hn : 0 ≤ n) (hf : f.length ≤ 40) (hz : ∀ x ∈ f, x.f2.f2.size ≤ 40) (k : Nat) (hk : 8388608 < k) :
  ∃ r, spec_updated.f k st w n f ln = some r ∧ r.length = st.length ∧ ∀ v ∈ r, OV v := by
 unfold spec_updated.f
 rw [bsome, if_pos (by rw [List.length_nil]; omega), bsome, List.nil_append, spec_apply_at st w n f ln (by omega) (by omega) (fun x hx => by have := hz x hx; omega) k hk, bsome]
 by_cases h : (decide (n < (st.length : Int)) && formOk f 0 (st.length : Int) 0) = true
 ·rw [if_pos h, if_pos (by decide)]
  rw [Bool.and_eq_true, decide_eq_true_eq] at h; obtain ⟨v, e, hv⟩ := eval_ex f st h.2 hs hz k (by omega); rw [e, bsome, if_pos hn, if_pos h.1]
  refine ⟨_, rfl, List.length_set .., fun x hx => ?_⟩
  rcases List.mem_or_eq_of_mem_set hx with hx | rfl
  ·exact hs x hx
  ·exact hv
 ·rw [if_neg h]; exact ⟨_, rfl, rfl, hs⟩
theorem storeUpdated_ex (l : List S72) (u : S77) (hl : GS l) (hu : UT u) (hn : 0 ≤ u.f1) (k : Nat) (hk : 16777216 < k) : ∃ r, spec_storeUpdated.f k l u.f0 u.f1 u.f2 u.f3 = some r ∧ GS r := by
 have hb := TB_SB (GS_TB hl)
 unfold spec_storeUpdated.f
 rw [spec_copyStore_at l hb.1 hb.2 k (by have := hl.1; omega), bsome, spec_cellAt_at l u.f0 hb.1 hb.2 (by have := hu.1; omega) k (by omega), bsome]; obtain ⟨h2, h3, h4⟩ := lowAt_in u.f0 l 0; generalize lowAt u.f0 l 0 = p at *; obtain ⟨i, ok⟩ := p; cases ok
 ·exact ⟨l, rfl, hl⟩
 ·have hi : i < l.length := by have := h4 rfl; simpa using this
  obtain ⟨c1, c2, c3⟩ := hl.2 _ (List.getElem_mem hi); obtain ⟨r, e, hr, hr'⟩ := updated_ex l[i].f1 u.f0 u.f1 u.f2 u.f3 c2 c3 hn hu.2.1 hu.2.2 k (by omega)
  show ∃ r, (if true = true then _ else _) = some r ∧ _
  rw [if_pos rfl, if_pos (by show (0 : Int) ≤ (i : Int); omega), if_pos (by show (i : Int) < _; omega), rd_cell hi, e, bsome]
  refine ⟨_, rfl, by rw [List.length_set]; exact hl.1, fun c hc => ?_⟩
  rcases List.mem_or_eq_of_mem_set hc with hc | rfl
  ·exact hl.2 c hc
  ·exact ⟨c1, by show r.length ≤ 3; omega, hr'⟩
theorem storeRun_ex (us : List S77) (hus : us.length ≤ 40) (hu : ∀ u ∈ us, UT u ∧ 0 ≤ u.f1) (l : List S72) (hl : GS l) (k : Nat) (hk : 16777300 < k) : ∃ r, spec_storeRun.f k l us = some r ∧ GS r := by
 have := loop_s (n := us.length) (m := 16777217) (s := 1) (by omega) (fun k i => ∀ l, GS l → ∃ r, spec_storeRun.l0 k l us (i : Int) = some r ∧ GS r)
  (fun k _ l hl => by simp only [spec_storeRun.l0]; rw [if_neg (by omega)]; exact ⟨_, rfl, hl⟩)
  (fun k i h hk ih l hl => by
   obtain ⟨h1, h2⟩ := hu _ (List.getElem_mem h); obtain ⟨r, e, hr⟩ := storeUpdated_ex l us[i] hl h1 h2 k (by omega); simp only [spec_storeRun.l0]; rw [if_pos (by omega), if_pos (by omega), rd_upd h, e, bsome, wnext h (by omega)]
   exact ih r hr) us.length 0 k (by omega) (by omega) (by omega) l hl
 unfold spec_storeRun.f
 exact this
theorem spec_copyStores_at (l : List (List S72)) (hl : l.length ≤ 1048576) (hc : ∀ c ∈ l, SB c) (k : Nat) (hk : 4194304 < k) : spec_copyStores.f k l = some l := by
 unfold spec_copyStores.f
 have := app_loop l (fun k acc i => spec_copyStores.l0 k l acc i) (fun x => [x]) 1048577 1 (by omega)
  (fun k acc _ => by simp only [spec_copyStores.l0]; rw [if_neg (by omega)])
  (fun k acc i h hk ha => by
   have := take_sum l (fun _ => 1) (by simp) i; obtain ⟨c0, c1⟩ := hc _ (List.getElem_mem h); simp only [List.length_singleton] at ha; simp only [spec_copyStores.l0]
   rw [if_pos (by omega), if_pos (by omega), rd_store h, spec_copyStore_at _ c0 c1 k (by omega), bsome, if_pos (by omega), wnext h (by omega)]) k (by omega)
 rw [flat_one] at this; exact this
theorem sameValues_ex (a b : List S98) (ha : a.length ≤ 1048576) (k : Nat) (hk : a.length < k) : ∃ r, spec_sameValues.f k a b = some r := by
 unfold spec_sameValues.f
 by_cases h : (a.length : Int) = (b.length : Int)
 rotate_left
 ·rw [if_neg h]; exact ⟨_, rfl⟩
 rw [if_pos h]
 exact loop_s (n := a.length) (m := 0) (s := 1) (by omega) (fun k i => ∃ r, spec_sameValues.l0 k a b (i : Int) = some r)
  (fun k _ => by simp only [spec_sameValues.l0]; rw [if_neg (by omega)]; exact ⟨_, rfl⟩)
  (fun k i h' hk ih => by
   simp only [spec_sameValues.l0]; rw [if_pos (by omega), if_pos (by omega), if_pos (by omega), wnext h' (by omega)]
   split
   ·exact ⟨_, rfl⟩
   ·exact ih) a.length 0 k (by omega) (by omega) (by omega)
theorem sameStore_ex (a b : List S72) (ha : SB a) (hb : SB b) (k : Nat) (hk : 16777216 < k) : ∃ r, spec_sameStore.f k a b = some r := by
 unfold spec_sameStore.f
 by_cases h : (a.length : Int) = (b.length : Int)
 rotate_left
 ·rw [if_neg h]; exact ⟨_, rfl⟩
 rw [if_pos h]
 exact loop_s (n := a.length) (m := 8388608) (s := 1) (by omega) (fun k i => ∃ r, spec_sameStore.l0 k a b (i : Int) = some r)
  (fun k _ => by simp only [spec_sameStore.l0]; rw [if_neg (by omega)]; exact ⟨_, rfl⟩)
  (fun k i h' hk ih => by
   have h'' : i < b.length := by omega
   obtain ⟨c0, c1, c2⟩ := ha.2 _ (List.getElem_mem h'); obtain ⟨d0, d1, d2⟩ := hb.2 _ (List.getElem_mem h''); obtain ⟨r, e⟩ := sameValues_ex a[i].f1 b[i].f1 c1 k (by omega); simp only [spec_sameStore.l0]; rw [if_pos (by omega), if_pos (by omega), if_pos (by omega), rd_cell h', rd_cell h'', spec_cmp_at _ _ (by omega) (by omega) k (by omega), bsome, e, bsome, wnext h' (by have := ha.1; omega)]
   split
   ·split
    ·exact ih
    ·exact ⟨_, rfl⟩
   ·exact ⟨_, rfl⟩) a.length 0 k (by omega) (by omega) (by have := ha.1; omega)
theorem sameStore_same (l : List S72) (h : SB l) (k : Nat) (hk : 8388608 < k) : spec_sameStore.f k l l = some true := by
 have := all_loop l (fun k i => spec_sameStore.l0 k l l i) (fun _ => true) true 6291456 1 (by omega)
  (fun k _ => by simp only [spec_sameStore.l0]; rw [if_neg (by omega)])
  (fun k i h' hk => by
   obtain ⟨c0, c1, c2⟩ := h.2 _ (List.getElem_mem h'); simp only [spec_sameStore.l0]
   rw [if_pos (by omega), if_pos (by omega), if_pos (by omega), rd_cell h', spec_cmp_at _ _ (by omega) (by omega) k (by omega), bsome, if_pos (cmp_refl _), sameValues_refl _ (by omega) k (by omega), bsome, wnext h' (by have := h.1; omega)]; simp) k (by have := h.1; omega)
 unfold spec_sameStore.f
 rw [if_pos rfl, this]; congr 1; simp [List.all_eq_true]
theorem sameStores_same (l : List (List S72)) (hl : l.length ≤ 1048576) (hc : ∀ c ∈ l, SB c) (k : Nat) (hk : 16777216 < k) : spec_SameStores.f k l l = some true := by
 have := all_loop l (fun k i => spec_SameStores.l0 k l l i) (fun _ => true) true 8388609 1 (by omega)
  (fun k _ => by simp only [spec_SameStores.l0]; rw [if_neg (by omega)])
  (fun k i h' hk => by
   simp only [spec_SameStores.l0]
   rw [if_pos (by omega), if_pos (by omega), if_pos (by omega), rd_store h', sameStore_same _ (hc _ (List.getElem_mem h')) k (by omega), bsome, wnext h' (by omega)]; simp) k (by omega)
 unfold spec_SameStores.f
 rw [if_pos rfl, this]; congr 1; simp [List.all_eq_true]
structure HB (n : List S72) (b a : List (List S72)) : Prop where
 now : TB n
 back : b.length ≤ 50 ∧ ∀ c ∈ b, TB c
 ahead : a.length ≤ 50 ∧ ∀ c ∈ a, TB c
theorem SBs {l : List (List S72)} (h : ∀ c ∈ l, TB c) : ∀ c ∈ l, SB c := fun c hc => TB_SB (h c hc)
theorem sameHist_same {n : List S72} {b a : List (List S72)} (h : HB n b a) (k : Nat) (hk : 16777216 < k) : spec_SameHist.f k n b a n b a = some true := by
 unfold spec_SameHist.f
 rw [sameStore_same n (TB_SB h.now) k (by omega), bsome, if_pos rfl, sameStores_same b (by have := h.back.1; omega) (SBs h.back.2) k hk, bsome, if_pos rfl, sameStores_same a (by have := h.ahead.1; omega) (SBs h.ahead.2) k hk, bsome]
theorem valid_at {n : List S72} {b a : List (List S72)} (h : HB n b a) (k : Nat) (hk : 8388608 < k) : spec_validHist.f k n b a = some (histOk n b a) :=
 spec_hist_at n b a (TB_SB h.now) (by have := h.back.1; omega) (SBs h.back.2) (by have := h.ahead.1; omega) (SBs h.ahead.2) k hk
theorem hok_at {n : List S72} {b a : List (List S72)} (h : HB n b a) (k : Nat) (hk : 8388608 < k) : impl_HistOk.f k n b a = some (histOk n b a) :=
 impl_hist_at n b a (TB_SB h.now) (by have := h.back.1; omega) (SBs h.back.2) (by have := h.ahead.1; omega) (SBs h.ahead.2) k hk
theorem HB_nil : HB [] [] [] := ⟨⟨Nat.zero_le _, fun c hc => by simp at hc⟩, ⟨Nat.zero_le _, fun c hc => by simp at hc⟩, ⟨Nat.zero_le _, fun c hc => by simp at hc⟩⟩
theorem histOk_len {n : List S72} {b a : List (List S72)} (h : histOk n b a = true) : storeOk n = true ∧ b.all storeOk = true ∧ a.all storeOk = true ∧ b.length + a.length ≤ 6 := by
 unfold histOk at h
 simpa only [Bool.and_eq_true, decide_eq_true_eq] using h
theorem histDo_ex {n : List S72} {b a : List (List S72)} (h : HB n b a) (us : List S77) (hus : us.length ≤ 200) (hu : ∀ u ∈ us, UT u) (k : Nat) (hk : 33554432 < k) : ∃ n' b' a', spec_HistDo.f k n b a us = some (n', b', a') ∧ HB n' b' a' ∧ b'.length ≤ 10 := by
 obtain ⟨k, rfl⟩ : ∃ q, k = q + 1 := ⟨k - 1, by omega⟩; have hv := valid_at h
 have hUB : ∀ u ∈ us, UB 2097151 u := fun u hu' => by obtain ⟨p, q, r⟩ := hu u hu'; exact ⟨by omega, by omega, fun x hx => by have := r x hx; omega⟩
 unfold spec_HistDo.f
 rw [hv (k + 1) (by omega), bsome]
 have j0 : ∀ bad : Bool, (bad = false → histOk n b a = true ∧ (decide (us.length ≤ 40) && us.all updOk) = true) → ∃ n' b' a', spec_HistDo.j0 (k + 1) us bad n b a = some (n', b', a') ∧ HB n' b' a' ∧ b'.length ≤ 10 := by
  intro bad hbad
  simp only [spec_HistDo.j0]; cases bad; rotate_left
  ·rw [if_pos rfl]; exact ⟨_, _, _, rfl, HB_nil, Nat.zero_le _⟩
  obtain ⟨ho, hu2⟩ := hbad rfl; rw [Bool.and_eq_true, decide_eq_true_eq, List.all_eq_true] at hu2; obtain ⟨o1, o2, o3, o4⟩ := histOk_len ho; obtain ⟨r, e, hr⟩ := storeRun_ex us hu2.1 (fun u hu' => ⟨hu u hu', by have := hu2.2 u hu'; unfold updOk uOk at this; simp only [Bool.and_eq_true, decide_eq_true_eq] at this; omega⟩) n (storeOk_GS o1 h.now) k (by omega); have hr' := TB_SB (GS_TB hr); have hn' := TB_SB h.now; obtain ⟨t, et⟩ := sameStore_ex r n hr' hn' k (by omega); rw [if_neg (by decide), e, bsome, spec_copyStore_at r hr'.1 hr'.2 k (by have := hr.1; omega), bsome, et, bsome]; have cb := spec_copyStores_at b (by have := h.back.1; omega) (SBs h.back.2) k (by omega); have cn := spec_copyStore_at n hn'.1 hn'.2 k (by have := h.now.1; omega)
  by_cases ht : t = true
  ·rw [if_pos ht]
   unfold spec_copyHist.f
   rw [cn, bsome, cb, bsome, spec_copyStores_at a (by have := h.ahead.1; omega) (SBs h.ahead.2) k (by omega), bsome, bsome]
   exact ⟨_, _, _, rfl, h, by show b.length ≤ 10; omega⟩
  ·have hbn : ∀ c ∈ b ++ [n], TB c := fun c hc => by
    rcases List.mem_append.1 hc with hc | hc
    ·exact h.back.2 c hc
    ·rw [List.mem_singleton.1 hc]; exact h.now
   have hbl : (b ++ [n]).length = b.length + 1 := by rw [List.length_append]; rfl
   rw [if_neg ht, cb, bsome, cn, bsome, if_pos (by omega), bsome]
   by_cases h6 : ((b ++ [n]).length : Int) > 6
   ·rw [if_pos h6, if_pos (by omega)]
    have hd : ∀ c ∈ (b ++ [n]).drop (1 : Int).toNat, TB c := fun c hc => hbn c (List.mem_of_mem_drop hc)
    rw [spec_copyStores_at _ (by rw [List.length_drop]; omega) (SBs hd) k (by omega), bsome]
    exact ⟨_, _, _, rfl, ⟨GS_TB hr, ⟨by rw [List.length_drop]; omega, hd⟩, ⟨Nat.zero_le _, fun c hc => by simp at hc⟩⟩, by rw [List.length_drop]; omega⟩
   ·rw [if_neg h6, spec_copyStores_at _ (by omega) (SBs hbn) k (by omega), bsome]
    exact ⟨_, _, _, rfl, ⟨GS_TB hr, ⟨by omega, hbn⟩, ⟨Nat.zero_le _, fun c hc => by simp at hc⟩⟩, by omega⟩
 cases ho : histOk n b a
 ·rw [if_neg (by decide)]; exact j0 true (fun h => by cases h)
 ·rw [if_pos rfl, spec_upds_at us (by omega) hUB (k + 1) (by omega), bsome]
  exact j0 _ (fun hq => ⟨ho, by simpa using hq⟩)
def undoR (n : List S72) (b a : List (List S72)) : List S72 × List (List S72) × List (List S72) × Bool :=
 if histOk n b a = true ∧ b ≠ [] then (b.getD (b.length - 1) [], b.take (b.length - 1), a ++ [n], true) else ([], [], [], false)
def redoR (n : List S72) (b a : List (List S72)) : List S72 × List (List S72) × List (List S72) × Bool :=
 if histOk n b a = true ∧ a ≠ [] then (a.getD (a.length - 1) [], b ++ [n], a.take (a.length - 1), true) else ([], [], [], false)
theorem last_TB {l : List (List S72)} (h : ∀ c ∈ l, TB c) (hn : l ≠ []) : TB (l.getD (l.length - 1) []) := by
 have hp := List.length_pos_iff.2 hn; rw [List.getD_eq_getElem?_getD, List.getElem?_eq_getElem (show l.length - 1 < l.length by omega)]
 exact h _ (List.getElem_mem _)
theorem snoc_TB {l : List (List S72)} {n : List S72} (h : ∀ c ∈ l, TB c) (hn : TB n) : ∀ c ∈ l ++ [n], TB c := fun c hc => by
 rcases List.mem_append.1 hc with hc | hc
 ·exact h c hc
 ·rw [List.mem_singleton.1 hc]; exact hn
theorem undoR_HB {n : List S72} {b a : List (List S72)} (h : HB n b a) : HB (undoR n b a).1 (undoR n b a).2.1 (undoR n b a).2.2.1 := by
 unfold undoR
 by_cases hc : histOk n b a = true ∧ b ≠ []
 ·rw [if_pos hc]
  obtain ⟨o1, o2, o3, o4⟩ := histOk_len hc.1
  exact ⟨last_TB h.back.2 hc.2, ⟨by rw [List.length_take]; omega, fun c hc => h.back.2 c (List.mem_of_mem_take hc)⟩, ⟨by rw [List.length_append, List.length_singleton]; omega, snoc_TB h.ahead.2 h.now⟩⟩
 ·rw [if_neg hc]; exact HB_nil
theorem redoR_HB {n : List S72} {b a : List (List S72)} (h : HB n b a) : HB (redoR n b a).1 (redoR n b a).2.1 (redoR n b a).2.2.1 := by
 unfold redoR
 by_cases hc : histOk n b a = true ∧ a ≠ []
 ·rw [if_pos hc]
  obtain ⟨o1, o2, o3, o4⟩ := histOk_len hc.1
  exact ⟨last_TB h.ahead.2 hc.2, ⟨by rw [List.length_append, List.length_singleton]; omega, snoc_TB h.back.2 h.now⟩, ⟨by rw [List.length_take]; omega, fun c hc => h.ahead.2 c (List.mem_of_mem_take hc)⟩⟩
 ·rw [if_neg hc]; exact HB_nil
theorem len_zero {l : List (List S72)} : ((l.length : Int) == 0) = false ↔ l ≠ [] := by
 rw [beq_eq_false_iff_ne]
 exact ⟨fun h e => h (by rw [e]; rfl), fun h e => h (List.length_eq_zero_iff.1 (by omega))⟩
theorem impl_storeCopy_at (l : List S72) (hl : SB l) (k : Nat) (hk : 1048600 < k) : impl_storeCopy.f k l = some l := by
 unfold impl_storeCopy.f
 have := app_loop l (fun k acc i => impl_storeCopy.l0 k acc l (l.length : Int) i) (fun x => [x]) 0 1 (by omega)
  (fun k acc _ => by simp only [impl_storeCopy.l0]; rw [if_neg (by omega)])
  (fun k acc i h _ ha => by
   have := take_sum l (fun _ => 1) (by simp) i; obtain ⟨c0, c1, c2⟩ := hl.2 _ (List.getElem_mem h); have := hl.1; simp only [List.length_singleton] at ha; simp only [impl_storeCopy.l0]; rw [if_pos (by omega), if_pos (by omega), if_pos (by omega), rd_cell h]
   unfold impl_cellCopy.f impl_placeCopy.f impl_valsCopy.f
   rw [if_pos (by rw [List.length_nil]; omega), bsome, if_pos (by rw [List.length_nil]; omega), bsome, bsome, if_pos (by omega), wnext h (by omega)]; rfl) k (by have := hl.1; omega)
 rw [flat_one] at this; exact this
theorem impl_storesCopy_at (l : List (List S72)) (hl : l.length ≤ 1048576) (hc : ∀ c ∈ l, SB c) (k : Nat) (hk : 4194304 < k) : impl_storesCopy.f k l = some l := by
 unfold impl_storesCopy.f
 have := app_loop l (fun k acc i => impl_storesCopy.l0 k acc l (l.length : Int) i) (fun x => [x]) 1048601 1 (by omega)
  (fun k acc _ => by simp only [impl_storesCopy.l0]; rw [if_neg (by omega)])
  (fun k acc i h hk ha => by
   have := take_sum l (fun _ => 1) (by simp) i; simp only [List.length_singleton] at ha; simp only [impl_storesCopy.l0]
   rw [if_pos (by omega), if_pos (by omega), if_pos (by omega), rd_store h, impl_storeCopy_at _ (hc _ (List.getElem_mem h)) k (by omega), bsome, if_pos (by omega), wnext h (by omega)]) k (by omega)
 rw [flat_one] at this; exact this
theorem histStep_at (n : List S72) (b a : List (List S72)) (hb : b ≠ []) (hl : b.length ≤ 50) (ha : a.length ≤ 50) : impl_histStep.f n b a = some (b.getD (b.length - 1) [], b.take (b.length - 1), a ++ [n]) := by
 have hp := List.length_pos_iff.2 hb
 unfold impl_histStep.f
 have hw : wrap64 ((b.length : Int) - 1) = ((b.length - 1 : Nat) : Int) := by rw [w64 (by omega) (by omega)]; omega
 rw [hw, if_pos (by omega), if_pos (by omega), if_pos (by omega)]
 rfl
theorem impl_copy_at {n : List S72} {b a : List (List S72)} (h : HB n b a) (k : Nat) (hk : 4194304 < k) : impl_histCopy.f k n b a = some (n, b, a) := by
 unfold impl_histCopy.f
 rw [impl_storeCopy_at n (TB_SB h.now) k (by omega), bsome, impl_storesCopy_at b (by have := h.back.1; omega) (SBs h.back.2) k hk, bsome, impl_storesCopy_at a (by have := h.ahead.1; omega) (SBs h.ahead.2) k hk, bsome]
theorem impl_undo_at {n : List S72} {b a : List (List S72)} (h : HB n b a) (k : Nat) (hk : 8388700 < k) : impl_HistUndo.f k n b a = some (undoR n b a) := by
 obtain ⟨k, rfl⟩ : ∃ q, k = q + 1 := ⟨k - 1, by omega⟩
 unfold impl_HistUndo.f undoR
 rw [hok_at h (k + 1) (by omega), bsome]
 have jt : impl_HistUndo.j0 (k + 1) true n b a = some ([], [], [], false) := by simp only [impl_HistUndo.j0]; rw [if_pos trivial]
 by_cases ho : histOk n b a = true
 ·rw [if_pos ho]
  by_cases hb : b = []
  ·subst hb
   rw [if_neg (show ¬ (histOk n [] a = true ∧ ([] : List (List S72)) ≠ []) from fun q => q.2 rfl)]
   exact jt
  ·rw [if_pos ⟨ho, hb⟩, len_zero.2 hb]
   simp only [impl_HistUndo.j0]; rw [if_neg (by decide), impl_copy_at h k (by omega), bsome, histStep_at n b a hb h.back.1 h.ahead.1, bsome]
 ·rw [if_neg ho, if_neg (fun q => ho q.1)]; exact jt
theorem impl_redo_at {n : List S72} {b a : List (List S72)} (h : HB n b a) (k : Nat) (hk : 8388700 < k) : impl_HistRedo.f k n b a = some (redoR n b a) := by
 obtain ⟨k, rfl⟩ : ∃ q, k = q + 1 := ⟨k - 1, by omega⟩
 unfold impl_HistRedo.f redoR
 rw [hok_at h (k + 1) (by omega), bsome]
 have jt : impl_HistRedo.j0 (k + 1) true n b a = some ([], [], [], false) := by simp only [impl_HistRedo.j0]; rw [if_pos trivial]
 by_cases ho : histOk n b a = true
 ·rw [if_pos ho]
  by_cases hb : a = []
  ·subst hb
   rw [if_neg (show ¬ (histOk n b [] = true ∧ ([] : List (List S72)) ≠ []) from fun q => q.2 rfl)]
   exact jt
  ·rw [if_pos ⟨ho, hb⟩, len_zero.2 hb]
   simp only [impl_HistRedo.j0]; rw [if_neg (by decide), impl_copy_at h k (by omega), bsome, histStep_at n a b hb h.ahead.1 h.back.1, bsome]
 ·rw [if_neg ho, if_neg (fun q => ho q.1)]; exact jt
theorem undoR_len {n : List S72} {b a : List (List S72)} (h : b.length ≤ 10) : (undoR n b a).2.1.length ≤ 10 := by
 unfold undoR
 split
 ·show (b.take _).length ≤ 10; rw [List.length_take]; omega
 ·exact Nat.zero_le _
theorem redoR_len {n : List S72} {b a : List (List S72)} : (redoR n b a).2.1.length ≤ 10 := by
 unfold redoR
 by_cases hc : histOk n b a = true ∧ a ≠ []
 ·rw [if_pos hc]
  obtain ⟨o1, o2, o3, o4⟩ := histOk_len hc.1
  show (b ++ [n]).length ≤ 10
  rw [List.length_append, List.length_singleton]; omega
 ·rw [if_neg hc]; exact Nat.zero_le _
theorem spec_undo_at {n : List S72} {b a : List (List S72)} (h : HB n b a) (k : Nat) (hk : 8388700 < k) : spec_HistUndo.f k n b a = some (undoR n b a) := by
 obtain ⟨k, rfl⟩ : ∃ q, k = q + 1 := ⟨k - 1, by omega⟩
 unfold spec_HistUndo.f undoR
 rw [valid_at h (k + 1) (by omega), bsome]
 have jt : spec_HistUndo.j0 (k + 1) true n b a = some ([], [], [], false) := by simp only [spec_HistUndo.j0]; rw [if_pos trivial]
 by_cases ho : histOk n b a = true
 ·rw [if_pos ho]
  by_cases hb : b = []
  ·subst hb
   rw [if_neg (show ¬ (histOk n [] a = true ∧ ([] : List (List S72)) ≠ []) from fun q => q.2 rfl)]
   exact jt
  ·have hp := List.length_pos_iff.2 hb
   have hl := h.back.1
   have hw : wrap64 ((b.length : Int) - 1) = ((b.length - 1 : Nat) : Int) := by rw [w64 (by omega) (by omega)]; omega
   have hx := TB_SB (last_TB h.back.2 hb); have hr : rd_L7 b ((b.length - 1 : Nat) : Int) = b.getD (b.length - 1) [] := rfl; have hn := TB_SB h.now; rw [if_pos ⟨ho, hb⟩, len_zero.2 hb]; simp only [spec_HistUndo.j0]; rw [if_neg (by decide), hw, if_pos (by omega), if_pos (by omega), hr, spec_copyStore_at _ hx.1 hx.2 k (by have := hx.1; omega), bsome, if_pos (by omega), spec_copyStores_at _ (by rw [List.length_take]; omega) (SBs fun c hc => h.back.2 c (List.mem_of_mem_take hc)) k (by omega), bsome, spec_copyStores_at a (by have := h.ahead.1; omega) (SBs h.ahead.2) k (by omega), bsome, spec_copyStore_at n hn.1 hn.2 k (by have := hn.1; omega), bsome, if_pos (by have := h.ahead.1; omega)]
   rfl
 ·rw [if_neg ho, if_neg (fun q => ho q.1)]; exact jt
theorem spec_redo_at {n : List S72} {b a : List (List S72)} (h : HB n b a) (k : Nat) (hk : 8388700 < k) : spec_HistRedo.f k n b a = some (redoR n b a) := by
 obtain ⟨k, rfl⟩ : ∃ q, k = q + 1 := ⟨k - 1, by omega⟩
 unfold spec_HistRedo.f redoR
 rw [valid_at h (k + 1) (by omega), bsome]
 have jt : spec_HistRedo.j0 (k + 1) true n b a = some ([], [], [], false) := by simp only [spec_HistRedo.j0]; rw [if_pos trivial]
 by_cases ho : histOk n b a = true
 ·rw [if_pos ho]
  by_cases hb : a = []
  ·subst hb
   rw [if_neg (show ¬ (histOk n b [] = true ∧ ([] : List (List S72)) ≠ []) from fun q => q.2 rfl)]
   exact jt
  ·have hp := List.length_pos_iff.2 hb
   have hl := h.ahead.1
   have hw : wrap64 ((a.length : Int) - 1) = ((a.length - 1 : Nat) : Int) := by rw [w64 (by omega) (by omega)]; omega
   have hx := TB_SB (last_TB h.ahead.2 hb); have hr : rd_L7 a ((a.length - 1 : Nat) : Int) = a.getD (a.length - 1) [] := rfl; have hn := TB_SB h.now; rw [if_pos ⟨ho, hb⟩, len_zero.2 hb]; simp only [spec_HistRedo.j0]; rw [if_neg (by decide), hw, if_pos (by omega), if_pos (by omega), hr, spec_copyStore_at _ hx.1 hx.2 k (by have := hx.1; omega), bsome, spec_copyStores_at b (by have := h.back.1; omega) (SBs h.back.2) k (by omega), bsome, spec_copyStore_at n hn.1 hn.2 k (by have := hn.1; omega), bsome, if_pos (by have := h.back.1; omega), if_pos (by omega), spec_copyStores_at _ (by rw [List.length_take]; omega) (SBs fun c hc => h.ahead.2 c (List.mem_of_mem_take hc)) k (by omega), bsome]
   rfl
 ·rw [if_neg ho, if_neg (fun q => ho q.1)]; exact jt
theorem snoc_last {b : List (List S72)} (hb : b ≠ []) : b.take (b.length - 1) ++ [b.getD (b.length - 1) []] = b := by
 have hp := List.length_pos_iff.2 hb; rw [List.getD_eq_getElem?_getD, List.getElem?_eq_getElem (show b.length - 1 < b.length by omega)]
 show b.take (b.length - 1) ++ [b[b.length - 1]] = b
 rw [← List.take_succ_eq_append_getElem (show b.length - 1 < b.length by omega), show b.length - 1 + 1 = b.length by omega, List.take_length]
theorem last_mem {b : List (List S72)} (hb : b ≠ []) : b.getD (b.length - 1) [] ∈ b := by
 have hp := List.length_pos_iff.2 hb; rw [List.getD_eq_getElem?_getD, List.getElem?_eq_getElem (show b.length - 1 < b.length by omega)]
 exact List.getElem_mem _
theorem undo_ok {n : List S72} {b a : List (List S72)} (h : histOk n b a = true) (hb : b ≠ []) : histOk (b.getD (b.length - 1) []) (b.take (b.length - 1)) (a ++ [n]) = true := by
 obtain ⟨o1, o2, o3, o4⟩ := histOk_len h; have hp := List.length_pos_iff.2 hb; rw [List.all_eq_true] at o2
 unfold histOk
 rw [o2 _ (last_mem hb), List.all_append, o3, decide_eq_true (show (b.take (b.length - 1)).length + (a ++ [n]).length ≤ 6 by rw [List.length_take, List.length_append, List.length_singleton]; omega)]
 have : (b.take (b.length - 1)).all storeOk = true := by rw [List.all_eq_true]; exact fun c hc => o2 c (List.mem_of_mem_take hc)
 rw [this]; simp [o1]
theorem redo_ok {n : List S72} {b a : List (List S72)} (h : histOk n b a = true) (hb : a ≠ []) : histOk (a.getD (a.length - 1) []) (b ++ [n]) (a.take (a.length - 1)) = true := by
 obtain ⟨o1, o2, o3, o4⟩ := histOk_len h; have hp := List.length_pos_iff.2 hb; rw [List.all_eq_true] at o3
 unfold histOk
 rw [o3 _ (last_mem hb), List.all_append, o2, decide_eq_true (show (b ++ [n]).length + (a.take (a.length - 1)).length ≤ 6 by rw [List.length_take, List.length_append, List.length_singleton]; omega)]
 have : (a.take (a.length - 1)).all storeOk = true := by rw [List.all_eq_true]; exact fun c hc => o3 c (List.mem_of_mem_take hc)
 rw [this]; simp [o1]
theorem getD_snoc (a : List (List S72)) (n : List S72) : (a ++ [n]).getD ((a ++ [n]).length - 1) [] = n := by
 rw [List.length_append, List.length_singleton, Nat.add_sub_cancel, List.getD_eq_getElem?_getD, List.getElem?_append_right (Nat.le_refl _), Nat.sub_self]; rfl
theorem take_snoc (a : List (List S72)) (n : List S72) : (a ++ [n]).take ((a ++ [n]).length - 1) = a := by
 rw [List.length_append, List.length_singleton, Nat.add_sub_cancel, List.take_left']; rfl
theorem undo_redo {n : List S72} {b a : List (List S72)} (h : histOk n b a = true) (hb : a ≠ []) : undoR (a.getD (a.length - 1) []) (b ++ [n]) (a.take (a.length - 1)) = (n, b, a, true) := by
 unfold undoR
 rw [if_pos ⟨redo_ok h hb, by simp⟩, getD_snoc, take_snoc, snoc_last hb]
theorem update_tells {l : List Int} {a f : Int} (s : List S72) (hs : TB s) (h : Src l a f) (k : Nat) (hk : 100 < k) : ∃ w n fm ln a' f', spec_source_update.f k l a f s = some (w, n, fm, ln, a', f') ∧ UT ⟨w, n, fm, ln⟩ ∧ Src l a' f' := by
 have j1 : ∀ (k : Nat) (x : Int) (w : List S96) (n ln a f : Int), 80 < k → w.length ≤ 40 → Src l a f → ∃ w' n' fm ln' a' f', spec_source_update.j1 k x l a f w n ln = some (w', n', fm, ln', a', f') ∧ UT ⟨w', n', fm, ln'⟩ ∧ Src l a' f' := by
  intro k x w n ln a f hk hw h
  obtain ⟨k, rfl⟩ : ∃ q, k = q + 1 := ⟨k - 1, by omega⟩; simp only [spec_source_update.j1]; obtain ⟨v, a1, f1, e1, p1, q1, s1⟩ := pick_tells x h k (by omega); rw [e1, bsome]; obtain ⟨r, a2, f2, e2, ⟨m1, m2, m3⟩, s2⟩ := form_tells (l := l) 0 x 0 5 5 k a1 f1 (by omega) (by omega) (by omega) s1; rw [e2, bsome]; obtain ⟨b, a3, f3, e3, s3⟩ := rarely_tells s2 k (by omega); rw [e3, bsome]
  have hu : ∀ n ln : Int, UT ⟨w, n, r, ln⟩ := fun n ln => ⟨hw, by show r.length ≤ 40; omega, fun x hx => by have := m3 x hx; omega⟩
  cases b with
  | true =>
   obtain ⟨u, a4, f4, e4, p4, s4⟩ := one_tells [-2, -1, 3] (by simp) s3 k (by omega); rw [if_pos rfl, e4, bsome]; exact ⟨_, _, _, _, _, _, rfl, hu _ _, s4⟩
  | false => rw [if_neg (by simp)]; exact ⟨_, _, _, _, _, _, rfl, hu _ _, s3⟩
 have j0 : ∀ (k : Nat) (x : Int) (b : Bool) (n ln a f : Int), 82 < k → (b = true → 0 < s.length) → Src l a f → ∃ w' n' fm ln' a' f', spec_source_update.j0 k s x b l a f n ln = some (w', n', fm, ln', a', f') ∧ UT ⟨w', n', fm, ln'⟩ ∧ Src l a' f' := by
  intro k x b n ln a f hk hb h
  obtain ⟨k, rfl⟩ : ∃ q, k = q + 1 := ⟨k - 1, by omega⟩; simp only [spec_source_update.j0]
  cases b with
  | true =>
   have hp := hb rfl; have hl := hs.1; obtain ⟨v, a1, f1, e1, p1, q1, s1⟩ := pick_tells (s.length : Int) h k (by omega); obtain ⟨i, hi⟩ : ∃ i : Nat, v = (i : Int) := ⟨v.toNat, by omega⟩
   have hi' : i < s.length := by omega
   obtain ⟨c0, c1, c2⟩ := hs.2 _ (List.getElem_mem hi'); rw [if_pos rfl, e1, bsome]
   show ∃ w' n' fm ln' a' f', (if 0 ≤ v then _ else _) = some (w', n', fm, ln', a', f') ∧ _
   rw [hi, if_pos (by omega), if_pos (by omega), bsome, rd_cell hi', if_pos (by rw [List.length_nil]; omega), List.nil_append]
   exact j1 k _ _ _ _ _ _ (by omega) c0 s1
  | false =>
   obtain ⟨w, a1, f1, e1, h1, s1⟩ := slots_tells h k (by omega); rw [if_neg (by simp), e1, bsome]
   exact j1 k _ _ _ _ _ _ (by omega) (by show w.length ≤ 40; omega) s1
 unfold spec_source_update.f
 obtain ⟨v, a1, f1, e1, p1, q1, s1⟩ := pick_tells 3 h k (by omega); rw [e1, bsome]; obtain ⟨u, a2, f2, e2, p2, q2, s2⟩ := pick_tells 3 s1 k (by omega); rw [e2, bsome]
 by_cases hp : (s.length : Int) > 0
 ·obtain ⟨x, a3, f3, e3, p3, q3, s3⟩ := pick_tells 8 s2 k (by omega)
  rw [if_pos hp, e3, bsome]
  exact j0 k _ _ _ _ _ _ (by omega) (fun _ => by omega) s3
 ·rw [if_neg hp]
  exact j0 k _ _ _ _ _ _ (by omega) (fun q => by cases q) s2
theorem updates_l {l : List Int} (s : List S72) (hs : TB s) : ∀ (n k : Nat) (acc : List S77) (a f : Int), Src l a f → n + 110 < k → acc.length + n ≤ 200 → (∀ u ∈ acc, UT u) → ∃ r a' f', spec_source_updates.l0 k s acc (n : Int) l a f = some (r, a', f') ∧ r.length ≤ acc.length + n ∧ (∀ u ∈ r, UT u) ∧ Src l a' f' := by
 intro n
 induction n with
 | zero =>
  intro k acc a f h hk hn ha
  obtain ⟨k, rfl⟩ : ∃ m, k = m + 1 := ⟨k - 1, by omega⟩; simp only [spec_source_updates.l0]; rw [if_neg (by omega)]
  exact ⟨_, _, _, rfl, by omega, ha, h⟩
 | succ n ih =>
  intro k acc a f h hk hn ha
  obtain ⟨k, rfl⟩ : ∃ m, k = m + 1 := ⟨k - 1, by omega⟩; simp only [spec_source_updates.l0]; rw [if_pos (by omega)]; obtain ⟨w, x, fm, ln, a1, f1, e1, h1, s1⟩ := update_tells s hs h k (by omega); rw [e1, bsome, if_pos (by omega), w64 (by omega) (by omega), show ((n + 1 : Nat) : Int) - 1 = (n : Int) by omega]
  obtain ⟨r, a', f', er, hr, hr', sr⟩ := ih k (acc ++ [⟨w, x, fm, ln⟩]) a1 f1 s1 (by omega) (by simp; omega) (fun v hv => by
   rcases List.mem_append.1 hv with hv | hv
   ·exact ha v hv
   ·rw [List.mem_singleton.1 hv]; exact h1)
  exact ⟨r, a', f', er, by simp at hr; omega, hr', sr⟩
theorem updates_tells {l : List Int} {a f : Int} (s : List S72) (hs : TB s) (h : Src l a f) (k : Nat) (hk : 130 < k) : ∃ r a' f', spec_source_updates.f k l a f s = some (r, a', f') ∧ r.length ≤ 200 ∧ (∀ u ∈ r, UT u) ∧ Src l a' f' := by
 unfold spec_source_updates.f
 obtain ⟨v, a1, f1, e1, p1, q1, s1⟩ := pick_tells 8 h k (by omega); rw [e1, bsome]; obtain ⟨r, a2, f2, e2, h1, h2, s2⟩ := updates_l s hs v.toNat k ([] : List S77) a1 f1 s1 (by omega) (by simp; omega) (by simp); rw [show ((v.toNat : Nat) : Int) = v by omega] at e2
 exact ⟨r, a2, f2, e2, by simp at h1; omega, h2, s2⟩
theorem hist_l {l : List Int} : ∀ (n k : Nat) (now : List S72) (b a : List (List S72)) (pa pf : Int), Src l pa pf → HB now b a → b.length ≤ 10 → n ≤ 1000 → 5 * n + 33554600 < k → ∃ n' b' a', spec_DrawHistRedo.l0 k (n : Int) l pa pf now b a = some (n', b', a') ∧ HB n' b' a' := by
 intro n
 induction n with
 | zero =>
  intro k now b a pa pf h hb hl hn hk
  obtain ⟨k, rfl⟩ : ∃ m, k = m + 1 := ⟨k - 1, by omega⟩; simp only [spec_DrawHistRedo.l0]; rw [if_neg (by omega)]; obtain ⟨v, a1, f1, e1, s1⟩ := rarely_tells h k (by omega); rw [e1, bsome]
  cases v with
  | true =>
   rw [if_pos rfl, bsome, if_pos (by simp only [List.length_cons, List.length_nil]; omega)]
   refine ⟨_, _, _, rfl, hb.now, ⟨by rw [List.length_append]; simp only [List.length_cons, List.length_nil]; omega, fun c hc => ?_⟩, hb.ahead⟩
   rcases List.mem_append.1 hc with hc | hc
   ·exact hb.back.2 c hc
   ·simp only [List.mem_cons, List.not_mem_nil, or_false, or_self] at hc
    rw [hc]; exact hb.now
  | false => rw [if_neg (by simp)]; exact ⟨_, _, _, rfl, hb⟩
 | succ n ih =>
  intro k now b a pa pf h hb hl hn hk
  obtain ⟨k, rfl⟩ : ∃ m, k = m + 5 := ⟨k - 5, by omega⟩
  have hw : wrap64 (((n + 1 : Nat) : Int) - 1) = (n : Int) := by rw [w64 (by omega) (by omega)]; omega
  have j4 : ∀ (now : List S72) (b a : List (List S72)) (pa pf : Int), Src l pa pf → HB now b a → b.length ≤ 10 → ∃ n' b' a', spec_DrawHistRedo.j4 (k + 1) ((n + 1 : Nat) : Int) l pa pf now b a = some (n', b', a') ∧ HB n' b' a' := by
   intro now b a pa pf h hb hl
   simp only [spec_DrawHistRedo.j4]; obtain ⟨v, a1, f1, e1, p1, q1, s1⟩ := pick_tells 5 h k (by omega); rw [e1, bsome, hw]
   by_cases hv : v = 0
   ·rw [if_pos hv]
    by_cases ha : (a.length : Int) > 0
    ·rw [if_pos ha, spec_redo_at hb k (by omega), bsome]
     exact ih k _ _ _ a1 f1 s1 (redoR_HB hb) redoR_len (by omega) (by omega)
    ·rw [if_neg ha]; exact ih k _ _ _ a1 f1 s1 hb hl (by omega) (by omega)
   ·rw [if_neg hv]; exact ih k _ _ _ a1 f1 s1 hb hl (by omega) (by omega)
  have j3 : ∀ (x : Bool) (now : List S72) (b a : List (List S72)) (pa pf : Int), Src l pa pf → HB now b a → b.length ≤ 10 → ∃ n' b' a', spec_DrawHistRedo.j3 (k + 2) ((n + 1 : Nat) : Int) x l pa pf now b a = some (n', b', a') ∧ HB n' b' a' := by
   intro x now b a pa pf h hb hl
   rw [show k + 2 = (k + 1) + 1 from rfl]; simp only [spec_DrawHistRedo.j3]; cases x
   ·rw [if_neg (by decide)]; exact j4 _ _ _ _ _ h hb hl
   ·rw [if_pos rfl, spec_undo_at hb (k + 1) (by omega), bsome]
    exact j4 _ _ _ _ _ h (undoR_HB hb) (undoR_len hl)
  have j2 : ∀ (now : List S72) (b a : List (List S72)) (pa pf : Int), Src l pa pf → HB now b a → b.length ≤ 10 → ∃ n' b' a', spec_DrawHistRedo.j2 (k + 3) ((n + 1 : Nat) : Int) l pa pf now b a = some (n', b', a') ∧ HB n' b' a' := by
   intro now b a pa pf h hb hl
   rw [show k + 3 = (k + 2) + 1 from rfl]; simp only [spec_DrawHistRedo.j2]; obtain ⟨v, a1, f1, e1, p1, q1, s1⟩ := pick_tells 3 h (k + 2) (by omega); rw [e1, bsome]
   split
   ·exact j3 _ _ _ _ _ _ s1 hb hl
   ·exact j3 _ _ _ _ _ _ s1 hb hl
  have j1 : ∀ (us : List S77) (x : Bool) (now : List S72) (b a : List (List S72)) (pa pf : Int), us.length ≤ 200 → (∀ u ∈ us, UT u) → Src l pa pf → HB now b a → b.length ≤ 10 → ∃ n' b' a', spec_DrawHistRedo.j1 (k + 4) ((n + 1 : Nat) : Int) us x l pa pf now b a = some (n', b', a') ∧ HB n' b' a' := by
   intro us x now b a pa pf hu1 hu2 h hb hl
   rw [show k + 4 = (k + 3) + 1 from rfl]; simp only [spec_DrawHistRedo.j1]; cases x
   ·rw [if_neg (by decide)]; exact j2 _ _ _ _ _ h hb hl
   ·obtain ⟨n', b', a', e, h1, h2⟩ := histDo_ex hb us hu1 hu2 (k + 3) (by omega)
    rw [if_pos rfl, e, bsome]; exact j2 _ _ _ _ _ h h1 h2
  rw [show k + 5 = (k + 4) + 1 from rfl]; simp only [spec_DrawHistRedo.l0]; rw [if_pos (by omega)]; obtain ⟨us, a1, f1, e1, hu1, hu2, s1⟩ := updates_tells now hb.now h (k + 4) (by omega); rw [e1, bsome, valid_at hb (k + 4) (by omega), bsome]
  cases hv : histOk now b a
  ·rw [if_neg (by decide)]; exact j1 _ _ _ _ _ _ _ hu1 hu2 s1 hb hl
  ·rw [if_pos rfl, spec_upds_at us (by omega) (fun u hu => by obtain ⟨p, q, r⟩ := hu2 u hu; exact ⟨by omega, by omega, fun x hx => by have := r x hx; omega⟩) (k + 4) (by omega), bsome]
   exact j1 _ _ _ _ _ _ _ hu1 hu2 s1 hb hl
theorem hist_draw {l : List Int} (h : Src l 0 4000) (k : Nat) (hk : 33554700 < k) : ∃ n b a, spec_DrawHistRedo.f k l = some (n, b, a) ∧ HB n b a := by
 unfold spec_DrawHistRedo.f spec_newSource.f
 rw [bsome]; obtain ⟨r, a1, f1, e1, h1, h2, s1⟩ := cells_tells h k (by omega)
 show ∃ n b a, Option.bind (spec_source_cells.f k l 0 4000) _ = some (n, b, a) ∧ _
 rw [e1, bsome]; obtain ⟨v, a2, f2, e2, p2, q2, s2⟩ := pick_tells 9 s1 k (by omega)
 show ∃ n b a, Option.bind (spec_source_pick.f k l a1 f1 9) _ = some (n, b, a) ∧ _
 rw [e2, bsome]; obtain ⟨n', b', a', e3, h3⟩ := hist_l (l := l) v.toNat k r [] [] a2 f2 s2 ⟨⟨by omega, h2⟩, ⟨Nat.zero_le _, fun c hc => by simp at hc⟩, ⟨Nat.zero_le _, fun c hc => by simp at hc⟩⟩ (Nat.zero_le _) (by omega) (by omega); rw [show ((v.toNat : Nat) : Int) = v by omega] at e3
 exact ⟨n', b', a', e3, h3⟩
theorem FnHistRedo : laws_FnHistRedo.Pure := by
 intro l _ _ hl
 obtain ⟨k, hk⟩ : ∃ k : Nat, k = 67108864 := ⟨_, rfl⟩
 refine ⟨k + 2, ?_⟩
 unfold laws_FnHistRedo.f
 by_cases hlen : (l.length : Int) > 1048576
 ·rw [if_pos hlen]
 rw [if_neg hlen]; obtain ⟨n, b, a, e1, h⟩ := hist_draw (src_new hl) (k + 2) (by omega); have hr := redoR_HB h; rw [e1, bsome]
 show Option.bind (impl_HistRedo.f (k + 2) n b a) _ = _
 rw [impl_redo_at h (k + 2) (by omega), bsome]
 show Option.bind (spec_HistRedo.f (k + 2) n b a) _ = _
 rw [spec_redo_at h (k + 2) (by omega), bsome, sameHist_same hr (k + 2) (by omega), bsome, if_pos rfl]; rw [show ((redoR n b a).2.2.2 == (redoR n b a).2.2.2) = true from beq_self_eq_true _]; simp only [laws_FnHistRedo.j0]; rw [if_pos trivial]
 by_cases hc : histOk n b a = true ∧ a ≠ []
 ·have e : redoR n b a = (a.getD (a.length - 1) [], b ++ [n], a.take (a.length - 1), true) := by unfold redoR; rw [if_pos hc]
  rw [e] at hr ⊢; have hr' : HB _ _ _ := hr; simp only [laws_FnHistRedo.j1]; rw [if_neg (by decide), impl_undo_at hr' k (by omega), undo_redo hc.1 hc.2, bsome, if_pos rfl, sameHist_same h k (by omega), bsome, if_pos rfl, hok_at hr' k (by omega), bsome, redo_ok hc.1 hc.2]
 ·have e : redoR n b a = ([], [], [], false) := by unfold redoR; rw [if_neg hc]
  rw [e]; simp only [laws_FnHistRedo.j1]; rw [if_pos (by decide)]
end Go.Proofs.Ytgbbcebjgpoioaa.Pure
