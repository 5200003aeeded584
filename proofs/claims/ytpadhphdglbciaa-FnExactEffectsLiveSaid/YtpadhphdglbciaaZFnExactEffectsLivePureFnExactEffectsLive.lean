/- The pure statement of the law 'FnExactEffectsLive': for every list of effects the law's function returns true, so the program's EffectsLive is the reference's and shares no memory (no other condition). -/
import Derived.Test.YtpadhphdglbciaaZFnExactEffectsLiveQFnExactEffectsLivex10
namespace Go.Proofs.Ytpadhphdglbciaa.Pure
open Go Go.RowKit Go.Proofs.Ytpadhphdglbciaa.PFnExactEffectsLive Go.Proofs.YtpadhphdglbciaaW.PrintWords Go.Proofs.YtpadhphdglbciaaW.PrintLast
set_option linter.unusedVariables false
set_option linter.unusedSimpArgs false
theorem w64 {n : Int} (h1 : -9223372036854775808 ≤ n) (h2 : n ≤ 9223372036854775807) : wrap64 n = n := by
 unfold wrap64; omega
theorem wnext {i n : Nat} (h : i < n) (hn : n ≤ 4611686018427387904) : wrap64 ((i : Int) + 1) = ((i + 1 : Nat) : Int) := by
 rw [w64 (by omega) (by omega)]; omega
theorem loop_up {n : Nat} (Q : Nat → Nat → Prop) (last : ∀ k, Q (k + 1) n) (step : ∀ k i, i < n → Q k (i + 1) → Q (k + 1) i) : ∀ k i, i ≤ n → n - i < k → Q k i := by
 intro k
 induction k with
 | zero => intro i _ h; omega
 | succ k ih =>
  intro i hi hk
  by_cases h : i = n
  ·subst h; exact last k
  ·exact step k i (by omega) (ih (i + 1) (by omega) (by omega))
theorem drop_at {α : Type} {l : List α} {i : Nat} (d : α) (h : i < l.length) : l.drop i = l.getD ((i : Int)).toNat d :: l.drop (i + 1) := by
 rw [List.drop_eq_getElem_cons h, List.getD_eq_getElem?_getD]
 simp [h]
theorem range_at {i n : Nat} (h : i < n) : List.range' i (n - i) = i :: List.range' (i + 1) (n - (i + 1)) := by
 rw [show n - i = (n - (i + 1)) + 1 by omega, List.range'_succ]
theorem range_end (n : Nat) : List.range' n (n - n) = [] := by simp
theorem bsome {α β : Type} (a : α) (f : α → Option β) : (some a).bind f = f a := by
 cases h : f a <;> simp [h]
theorem getD_at {α : Type} {l : List α} {i : Nat} (d : α) (h : i < l.length) : l.getD ((i : Int)).toNat d = l[i] := by
 simp [List.getD_eq_getElem?_getD, h]
theorem drop_cons {α : Type} {l : List α} {i : Nat} (h : i < l.length) : l.drop i = l[i] :: l.drop (i + 1) := List.drop_eq_getElem_cons h
theorem loop_s {n m s : Nat} (hs : 0 < s) (Q : Nat → Nat → Prop) (last : ∀ k, m ≤ k → Q (k + 1) n) (step : ∀ k i, i < n → m ≤ k → Q k (i + 1) → Q (k + s) i) : ∀ d i k, n - i = d → i ≤ n → d * s + m < k → Q k i := by
 intro d
 induction d with
 | zero =>
  intro i k hd hi hk
  obtain rfl : i = n := by omega
  obtain ⟨k, rfl⟩ : ∃ q, k = q + 1 := ⟨k - 1, by omega⟩
  exact last k (by omega)
 | succ d ih =>
  intro i k hd hi hk
  rw [Nat.add_mul, Nat.one_mul] at hk
  obtain ⟨k, rfl⟩ : ∃ q, k = q + s := ⟨k - s, by omega⟩
  exact step k i (by omega) (by omega) (ih (i + 1) k (by omega) (by omega) (by omega))
theorem all_loop {α : Type} (xs : List α) (F : Nat → Int → Option Bool) (p : α → Bool) (fin : Bool) (m s : Nat) (hs : 0 < s)
  (hend : ∀ k, m ≤ k → F (k + 1) (xs.length : Int) = some fin)
  (hstep : ∀ k i (h : i < xs.length), m ≤ k → F (k + s) (i : Int) = if p xs[i] = true then F k ((i + 1 : Nat) : Int) else some false) :
  ∀ k, xs.length * s + m < k → F k 0 = some (xs.all p && fin) := by
 intro k hk
 have := loop_s (n := xs.length) (m := m) (s := s) hs (fun k i => F k (i : Int) = some ((xs.drop i).all p && fin)) (fun k hm => by show F (k + 1) (xs.length : Int) = _; rw [hend k hm, List.drop_length]; rfl)
  (fun k i h hm ih => by
   show F (k + s) (i : Int) = _
   rw [hstep k i h hm, drop_cons h, List.all_cons]
   have ih' : F k ((i + 1 : Nat) : Int) = some ((xs.drop (i + 1)).all p && fin) := ih
   rw [ih']
   by_cases hp : p xs[i] = true <;> simp [hp]) xs.length 0 k (by omega) (by omega) hk
 simpa using this
theorem map_loop {α β : Type} (xs : List α) (F : Nat → List β → Int → Option (List β)) (c : α → β) (z : β) (m s : Nat) (hs : 0 < s)
  (hend : ∀ k acc, m ≤ k → F (k + 1) acc (xs.length : Int) = some acc)
  (hstep : ∀ k (acc : List β) i (h : i < xs.length), m ≤ k → i < acc.length → F (k + s) acc (i : Int) = F k (acc.set i (c xs[i])) ((i + 1 : Nat) : Int)) :
  ∀ k, xs.length * s + m < k → F k (List.replicate xs.length z) 0 = some (xs.map c) := by
 intro k hk
 have := loop_s (n := xs.length) (m := m) (s := s) hs (fun k i => ∀ p : List β, p.length = i → F k (p ++ List.replicate (xs.length - i) z) (i : Int) = some (p ++ (xs.drop i).map c))
  (fun k hm p hp => by rw [hend k _ hm]; simp)
  (fun k i h hm ih p hp => by
   rw [hstep k _ i h hm (by simp; omega), show xs.length - i = (xs.length - (i + 1)) + 1 by omega, List.replicate_succ]
   have e : (p ++ z :: List.replicate (xs.length - (i + 1)) z).set i (c xs[i]) = (p ++ [c xs[i]]) ++ List.replicate (xs.length - (i + 1)) z := by
    subst hp; simp
   rw [e, ih (p ++ [c xs[i]]) (by simp [hp]), drop_cons h, List.map_cons, List.append_assoc]; rfl) xs.length 0 k (by omega) (by omega) hk [] rfl
 simpa using this
theorem sz_loop {α : Type} (xs : List α) (F : Nat → Int → Int → Option Int) (sz : α → Nat) (m s : Nat) (hs : 0 < s)
  (hend : ∀ (k : Nat) (left : Int), m ≤ k → F (k + 1) left (xs.length : Int) = some left)
  (hstep : ∀ (k : Nat) (left : Int) (i : Nat) (h : i < xs.length), m ≤ k → 0 ≤ left → left ≤ 1048576 → ∃ t, t ≤ left ∧ (0 ≤ t → t = left - sz xs[i]) ∧ F (k + s) left (i : Int) = if t < 0 then some (-1) else F k t ((i + 1 : Nat) : Int)) :
  ∀ (k : Nat) (left : Int), xs.length * s + m < k → 0 ≤ left → left ≤ 1048576 → ∃ r, F k left 0 = some r ∧ r ≤ left ∧ (0 ≤ r → r = left - (xs.map sz).sum) := by
 intro k left hk h0 h1
 have := loop_s (n := xs.length) (m := m) (s := s) hs (fun k i => ∀ left : Int, 0 ≤ left → left ≤ 1048576 → ∃ r, F k left (i : Int) = some r ∧ r ≤ left ∧ (0 ≤ r → r = left - ((xs.drop i).map sz).sum))
  (fun k hm left h0 h1 => ⟨left, by rw [hend k _ hm], by omega, by simp⟩)
  (fun k i h hm ih left h0 h1 => by
   obtain ⟨t, t1, t2, t3⟩ := hstep k left i h hm h0 h1
   by_cases ht : t < 0
   ·exact ⟨-1, by rw [t3, if_pos ht], by omega, by omega⟩
   ·obtain ⟨r, r1, r2, r3⟩ := ih t (by omega) (by omega)
    refine ⟨r, by rw [t3, if_neg ht, r1], by omega, fun hr => ?_⟩
    rw [r3 hr, t2 (by omega), drop_cons h, List.map_cons, List.sum_cons]; omega) xs.length 0 k (by omega) (by omega) hk left h0 h1
 simpa using this
theorem sum_mem {α : Type} {xs : List α} {sz : α → Nat} {x : α} (h : x ∈ xs) : sz x ≤ (xs.map sz).sum := by
 induction xs with
 | nil => cases h
 | cons y ys ih =>
  rw [List.map_cons, List.sum_cons]
  rcases List.mem_cons.1 h with rfl | h
  ·omega
  ·have := ih h; omega
theorem within_at (a b c : Int) : impl_within.f a b c = some (decide (b ≤ a ∧ a ≤ c)) := by
 unfold impl_within.f
 by_cases h : a ≥ b
 ·rw [if_pos h]; congr 1; exact decide_eq_decide.mpr ⟨fun x => ⟨h, x⟩, fun x => x.2⟩
 ·rw [if_neg h]; congr 1; exact (decide_eq_false fun x => h x.1).symm
theorem inRange_at (a b c : Int) : spec_inRange.f a b c = some (decide (b ≤ a ∧ a ≤ c)) := by
 unfold spec_inRange.f
 by_cases h : a ≥ b
 ·rw [if_pos h]; congr 1; exact decide_eq_decide.mpr ⟨fun x => ⟨h, x⟩, fun x => x.2⟩
 ·rw [if_neg h]; congr 1; exact (decide_eq_false fun x => h x.1).symm
def slotOk (x : S92) : Bool := decide (0 ≤ x.f0 ∧ x.f0 ≤ 3) && decide (0 ≤ x.f1 ∧ x.f1 ≤ 103)
theorem rd_slot {l : List S92} {i : Nat} (h : i < l.length) : l.drop i = rd_T92 l (i : Int) :: l.drop (i + 1) := drop_at z92 h
def plOk (l : List S92) : Bool := l.all slotOk && decide (l.length ≤ 20)
theorem validSlot_at (x : S92) : spec_validSlot.f x.f0 x.f1 = some (slotOk x) := by
 unfold spec_validSlot.f slotOk
 simp only [inRange_at, Option.bind_some]
 by_cases h : 0 ≤ x.f0 ∧ x.f0 ≤ 3 <;> simp [h]
theorem spec_place_l (l : List S92) (hl : l.length ≤ 4611686018427387904) : ∀ k i, i ≤ l.length → l.length - i < k → spec_validPlace.l0 k l (i : Int) = some ((l.drop i).all slotOk) := by
 refine loop_up (fun k i => spec_validPlace.l0 k l (i : Int) = some ((l.drop i).all slotOk)) ?_ ?_
 ·intro k
  simp only [spec_validPlace.l0]
  rw [if_neg (by omega), List.drop_length]; rfl
 ·intro k i hi ih
  simp only [spec_validPlace.l0]
  rw [if_pos (by omega), if_pos (by omega), validSlot_at, rd_slot hi]
  simp only [Option.bind_some, wnext hi hl, ih, List.all_cons]
  by_cases hg : slotOk (rd_T92 l (i : Int)) = true <;> simp [hg]
theorem spec_place_at (l : List S92) (hl : l.length ≤ 4611686018427387904) (k : Nat) (hk : l.length < k) : spec_validPlace.f k l = some (plOk l) := by
 have := spec_place_l l hl k 0 (by omega) (by omega)
 unfold spec_validPlace.f plOk
 by_cases h : (l.length : Int) > 20
 ·rw [if_pos h, show decide (l.length ≤ 20) = false from decide_eq_false (by omega), Bool.and_false]
 ·rw [if_neg h, show decide (l.length ≤ 20) = true from decide_eq_true (by omega), Bool.and_true]; exact this
theorem impl_place_l (l : List S92) (hl : l.length ≤ 4611686018427387904) : ∀ k i, i ≤ l.length → l.length - i < k → impl_PlaceOk.l0 k l l (l.length : Int) (i : Int) = some ((l.drop i).all slotOk && decide (l.length ≤ 20)) := by
 refine loop_up (fun k i => impl_PlaceOk.l0 k l l (l.length : Int) (i : Int) = some ((l.drop i).all slotOk && decide (l.length ≤ 20))) ?_ ?_
 ·intro k
  simp only [impl_PlaceOk.l0]
  rw [if_neg (by omega), List.drop_length]
  simp only [List.all_nil, Bool.true_and]
  congr 1; exact decide_eq_decide.mpr (by omega)
 ·intro k i hi ih
  simp only [impl_PlaceOk.l0]
  rw [if_pos (by omega), if_pos (by omega), if_pos (by omega), rd_slot hi]
  simp only [within_at, Option.bind_some, wnext hi hl, ih, List.all_cons, slotOk, decide_eq_true_eq]
  by_cases h0 : 0 ≤ (rd_T92 l (i : Int)).f0 ∧ (rd_T92 l (i : Int)).f0 ≤ 3
  ·by_cases h1 : 0 ≤ (rd_T92 l (i : Int)).f1 ∧ (rd_T92 l (i : Int)).f1 ≤ 103
   ·rw [if_pos h0, if_pos h1]; simp [h0, h1]
   ·rw [if_pos h0, if_neg h1]; simp [h0, h1]
  ·rw [if_neg h0]; simp [h0]
theorem impl_place_at (l : List S92) (hl : l.length ≤ 4611686018427387904) (k : Nat) (hk : l.length < k) : impl_PlaceOk.f k l = some (plOk l) := by
 have := impl_place_l l hl k 0 (by omega) (by omega)
 unfold impl_PlaceOk.f plOk
 exact this
def cmp : List S92 → List S92 → Int
 | [], [] => 0
 | [], _ :: _ => -1
 | _ :: _, [] => 1
 | x :: xs, y :: ys => if x.f0 = y.f0 ∧ x.f1 = y.f1 then cmp xs ys else if x.f0 < y.f0 ∨ (x.f0 = y.f0 ∧ x.f1 < y.f1) then -1 else 1
theorem cmp_end {a b : List S92} (i : Nat) (h : i = min a.length b.length) : cmp (a.drop i) (b.drop i) = if (a.length : Int) < (b.length : Int) then -1 else if (a.length : Int) > (b.length : Int) then 1 else 0 := by
 by_cases h1 : a.length < b.length
 ·rw [if_pos (by omega), List.drop_of_length_le (by omega : a.length ≤ i), drop_at z92 (by omega : i < b.length)]; rfl
 ·rw [if_neg (by omega), List.drop_of_length_le (by omega : b.length ≤ i)]
  by_cases h2 : b.length < a.length
  ·rw [if_pos (by omega), drop_at z92 (by omega : i < a.length)]; rfl
  ·rw [if_neg (by omega), List.drop_of_length_le (by omega : a.length ≤ i)]; rfl
theorem cmp_next {a b : List S92} {i : Nat} (ha : i < a.length) (hb : i < b.length) : cmp (a.drop i) (b.drop i) =
  (if (rd_T92 a (i : Int)).f0 = (rd_T92 b (i : Int)).f0 ∧ (rd_T92 a (i : Int)).f1 = (rd_T92 b (i : Int)).f1 then cmp (a.drop (i + 1)) (b.drop (i + 1)) else
   if (rd_T92 a (i : Int)).f0 < (rd_T92 b (i : Int)).f0 ∨ ((rd_T92 a (i : Int)).f0 = (rd_T92 b (i : Int)).f0 ∧ (rd_T92 a (i : Int)).f1 < (rd_T92 b (i : Int)).f1) then -1 else 1) := by
 rw [rd_slot ha, rd_slot hb]; rfl
theorem cmp_refl (a : List S92) : cmp a a = 0 := by
 induction a with
 | nil => rfl
 | cons x xs ih => unfold cmp; rw [if_pos ⟨rfl, rfl⟩]; exact ih
theorem cmp_zero {a b : List S92} (h : cmp a b = 0) : a = b := by
 induction a generalizing b with
 | nil => cases b with
  | nil => rfl
  | cons y ys => simp [cmp] at h
 | cons x xs ih => cases b with
  | nil => simp [cmp] at h
  | cons y ys =>
   unfold cmp at h
   by_cases e : x.f0 = y.f0 ∧ x.f1 = y.f1
   ·rw [if_pos e] at h
    rw [ih h]
    obtain ⟨x0, x1⟩ := x; obtain ⟨y0, y1⟩ := y
    obtain ⟨e0, e1⟩ := e
    simp only at e0 e1
    rw [e0, e1]
   ·rw [if_neg e] at h; split at h <;> omega
theorem cmp_neg (a b : List S92) : cmp b a = - cmp a b := by
 induction a generalizing b with
 | nil => cases b <;> rfl
 | cons x xs ih => cases b with
  | nil => rfl
  | cons y ys =>
   unfold cmp
   by_cases e : x.f0 = y.f0 ∧ x.f1 = y.f1
   ·rw [if_pos e, if_pos ⟨e.1.symm, e.2.symm⟩]; exact ih ys
   ·rw [if_neg e, if_neg (fun q => e ⟨q.1.symm, q.2.symm⟩)]
    by_cases l : x.f0 < y.f0 ∨ (x.f0 = y.f0 ∧ x.f1 < y.f1)
    ·rw [if_pos l, if_neg (by omega)]; rfl
    ·rw [if_neg l, if_pos (by omega)]
theorem cmp_three (a b : List S92) : cmp a b = -1 ∨ cmp a b = 0 ∨ cmp a b = 1 := by
 induction a generalizing b with
 | nil => cases b <;> simp [cmp]
 | cons x xs ih => cases b with
  | nil => simp [cmp]
  | cons y ys =>
   unfold cmp
   split
   ·exact ih ys
   ·split <;> simp
theorem impl_cmp_l (a b : List S92) (hb : b.length ≤ 4611686018427387904) : ∀ k i, i ≤ min a.length b.length → min a.length b.length - i < k → impl_placeCmp.l0 k a b ((min a.length b.length : Nat) : Int) (i : Int) = some (cmp (a.drop i) (b.drop i)) := by
 refine loop_up (fun k i => impl_placeCmp.l0 k a b ((min a.length b.length : Nat) : Int) (i : Int) = some (cmp (a.drop i) (b.drop i))) ?_ ?_
 ·intro k
  simp only [impl_placeCmp.l0]
  rw [if_neg (by omega), cmp_end _ rfl]
  repeat' split
  all_goals rfl
 ·intro k i hi ih
  have ha' : i < a.length := by omega
  have hb' : i < b.length := by omega
  simp only [impl_placeCmp.l0]
  rw [if_pos (by omega), if_pos (by omega), if_pos (by omega), if_pos (by omega), wnext hi (by omega), ih, cmp_next ha' hb']
  generalize rd_T92 a (i : Int) = x
  generalize rd_T92 b (i : Int) = y
  by_cases e : x.f0 = y.f0 ∧ x.f1 = y.f1
  ·rw [if_pos e, if_pos (by simp [e])]
  ·rw [if_neg e, if_neg (by simpa using e)]
   by_cases l : x.f0 < y.f0 ∨ (x.f0 = y.f0 ∧ x.f1 < y.f1)
   ·rw [if_pos l]
    repeat' split
    all_goals first
     | rfl
     | (exfalso; omega)
   ·rw [if_neg l]
    repeat' split
    all_goals first
     | rfl
     | (exfalso; omega)
theorem impl_cmp_at (a b : List S92) (hb : b.length ≤ 4611686018427387904) (k : Nat) (hk : min a.length b.length < k) : impl_placeCmp.f k a b = some (cmp a b) := by
 have := impl_cmp_l a b hb k 0 (by omega) (by omega)
 unfold impl_placeCmp.f
 rw [show mn (a.length : Int) (b.length : Int) = ((min a.length b.length : Nat) : Int) by unfold mn; split <;> omega]
 exact this
theorem spec_cmp_l (a b : List S92) (hb : b.length ≤ 4611686018427387904) (ha : a.length ≤ 4611686018427387904) : ∀ d i k, min a.length b.length - i = d → i ≤ min a.length b.length → 3 * d + 2 ≤ k → spec_comparePlaces.l0 k a b (i : Int) = some (cmp (a.drop i) (b.drop i)) := by
 intro d
 induction d with
 | zero =>
  intro i k hd hi hk
  obtain ⟨k, rfl⟩ : ∃ m, k = m + 2 := ⟨k - 2, by omega⟩
  have he : i = min a.length b.length := by omega
  have hj : spec_comparePlaces.j1 (k + 1) a b (i : Int) false = some (cmp (a.drop i) (b.drop i)) := by
   simp only [spec_comparePlaces.j1]
   rw [if_neg (by simp), cmp_end i he]
   repeat' split
   all_goals rfl
  simp only [spec_comparePlaces.l0]
  by_cases h1 : (i : Int) < (a.length : Int)
  ·rw [if_pos h1, decide_eq_false (by omega : ¬ (i : Int) < (b.length : Int))]; exact hj
  ·rw [if_neg h1]; exact hj
 | succ d ih =>
  intro i k hd hi hk
  obtain ⟨k, rfl⟩ : ∃ m, k = m + 3 := ⟨k - 3, by omega⟩
  have ha' : i < a.length := by omega
  have hb' : i < b.length := by omega
  have hn := ih (i + 1) k (by omega) (by omega) (by omega)
  simp only [spec_comparePlaces.l0]
  rw [if_pos (by omega), decide_eq_true (by omega : (i : Int) < (b.length : Int))]
  simp only [spec_comparePlaces.j1]
  rw [if_pos trivial, if_pos (by omega), if_pos (by omega), if_pos (by omega), cmp_next ha' hb']
  simp only [spec_comparePlaces.j2]
  rw [wnext (n := b.length) hb' hb, hn]
  simp only [show (0 : Int) ≤ (i : Int) from by omega, show (i : Int) < (a.length : Int) from by omega, show (i : Int) < (b.length : Int) from by omega, if_true]
  generalize rd_T92 a (i : Int) = x
  generalize rd_T92 b (i : Int) = y
  by_cases e : x.f0 = y.f0 ∧ x.f1 = y.f1
  ·obtain ⟨e0, e1⟩ := e
   simp [e0, e1]
  ·rw [if_neg e]
   have hne : (!(x.f0 == y.f0) || !(x.f1 == y.f1)) = true := by
    rw [Bool.or_eq_true, Bool.not_eq_true', Bool.not_eq_true', beq_eq_false_iff_ne, beq_eq_false_iff_ne]
    by_cases h0 : x.f0 = y.f0
    ·exact Or.inr fun h1 => e ⟨h0, h1⟩
    ·exact Or.inl h0
   rw [hne]
   by_cases l : x.f0 < y.f0 ∨ (x.f0 = y.f0 ∧ x.f1 < y.f1)
   ·rw [if_pos l]
    by_cases l0 : x.f0 < y.f0
    ·simp [l0]
    ·obtain ⟨e0, e1⟩ : x.f0 = y.f0 ∧ x.f1 < y.f1 := by omega
     simp [e0, e1]
   ·rw [if_neg l]
    have l0 : ¬ x.f0 < y.f0 := by omega
    by_cases e0 : x.f0 = y.f0
    ·have l1 : ¬ x.f1 < y.f1 := by omega
     simp [e0, l1]
    ·simp [l0, e0]
theorem spec_cmp_at (a b : List S92) (ha : a.length ≤ 4611686018427387904) (hb : b.length ≤ 4611686018427387904) (k : Nat) (hk : 3 * min a.length b.length + 2 ≤ k) : spec_comparePlaces.f k a b = some (cmp a b) := by
 have := spec_cmp_l a b hb ha _ 0 k rfl (by omega) (by omega)
 unfold spec_comparePlaces.f
 exact this
theorem eqSlot_refl (a b : Int) : laws_eqSlot.f a b a b = some true := by unfold laws_eqSlot.f; simp
theorem eqSlotS_l (l : List S92) (hl : l.length ≤ 4611686018427387904) : ∀ k i, i ≤ l.length → l.length - i < k → laws_eqSlotS.l0 k l l (i : Int) = some true := by
 refine loop_up (fun k i => laws_eqSlotS.l0 k l l (i : Int) = some true) ?_ ?_
 ·intro k
  simp only [laws_eqSlotS.l0]
  rw [if_neg (by omega)]
 ·intro k i hi ih
  simp only [laws_eqSlotS.l0]
  rw [if_pos (by omega), if_pos (by omega), if_pos (by omega), eqSlot_refl]
  simp only [Option.bind_some, wnext hi hl, ih, if_true]
theorem eqSlotS_refl (l : List S92) (hl : l.length ≤ 4611686018427387904) (k : Nat) (hk : l.length < k) : laws_eqSlotS.f k l l = some true := by
 unfold laws_eqSlotS.f
 rw [if_pos rfl]; exact eqSlotS_l l hl k 0 (by omega) (by omega)
def cSlot (x : S94) : S92 := ⟨x.f0, x.f1⟩
theorem rd_lslot {l : List S94} {i : Nat} (h : i < l.length) : l.drop i = rd_T94 l (i : Int) :: l.drop (i + 1) := drop_at z94 h
theorem set_mid {α : Type} (p : List α) (a b : α) (r : List α) (n : Nat) (h : n = p.length) : (p ++ a :: r).set n b = p ++ b :: r := by subst h; simp
theorem toSlotS_l (l : List S94) (hl : l.length ≤ 4611686018427387904) (z : S92) : ∀ k i, i ≤ l.length → l.length - i < k → ∀ p, p.length = i → laws_toSlotS.l0 k l (p ++ List.replicate (l.length - i) z) (i : Int) = some (p ++ (l.drop i).map cSlot) := by
 refine loop_up (fun k i => ∀ p, p.length = i → laws_toSlotS.l0 k l (p ++ List.replicate (l.length - i) z) (i : Int) = some (p ++ (l.drop i).map cSlot)) ?_ ?_
 ·intro k p hp
  simp only [laws_toSlotS.l0]
  rw [if_neg (by omega)]; simp
 ·intro k i hi ih p hp
  simp only [laws_toSlotS.l0, laws_toSlot.f]
  rw [if_pos (by omega), if_pos (by omega)]
  simp only [Option.bind_some]
  rw [if_pos (by simp; omega), show l.length - i = (l.length - (i + 1)) + 1 by omega, List.replicate_succ, set_mid _ _ _ _ _ (by omega), wnext hi hl]
  have := ih (p ++ [cSlot (rd_T94 l (i : Int))]) (by simp [hp])
  rw [List.append_assoc] at this
  rw [rd_lslot hi, List.map_cons, ← List.singleton_append, ← List.append_assoc p, List.append_assoc p]
  rw [List.append_assoc] at this
  exact this
theorem toSlotS_at (l : List S94) (hl : l.length ≤ 1048576) (k : Nat) (hk : l.length < k) : laws_toSlotS.f k l = some (l.map cSlot) := by
 unfold laws_toSlotS.f
 rw [if_pos (by omega), if_pos (by omega)]
 have := toSlotS_l l (by omega) z92 k 0 (by omega) (by omega) [] rfl
 simpa using this
theorem szSlotS_at (l : List S94) (n : Int) (hn : 0 ≤ n ∧ n ≤ 1048576) (hl : l.length ≤ maxLen) : ∃ r, laws_szSlotS.f l n = some r ∧ (0 ≤ r → r = n - l.length) ∧ r ≤ n := by
 have hm : l.length ≤ 9223372036854775807 := hl
 unfold laws_szSlotS.f
 rw [w64 (by omega) (by omega)]
 by_cases h : n - (l.length : Int) < 0
 ·rw [if_pos h]; exact ⟨_, rfl, by omega, by omega⟩
 ·rw [if_neg h]; exact ⟨_, rfl, by omega, by omega⟩
def mkSlots : List S92 → Nat → List S92
 | [], _ => []
 | _ :: xs, a => ⟨(a : Int), ((a + 1 : Nat) : Int)⟩ :: mkSlots xs (a + 2)
theorem mkSlots_length (l : List S92) : ∀ a, (mkSlots l a).length = l.length := by
 induction l with
 | nil => intro a; rfl
 | cons x l ih => intro a; simp only [mkSlots, List.length_cons, ih]
theorem rdm_slot (p : List S92) (x : S92) (r : List S92) : rd_T92 (p ++ x :: r) (p.length : Int) = x := by
 unfold rd_T92
 simp [List.getD_eq_getElem?_getD]
theorem setm {α : Type} (p : List α) (a b : α) (r : List α) : (p ++ a :: r).set ((p.length : Int)).toNat b = p ++ b :: r := set_mid p a b r _ (Int.toNat_natCast _)
theorem snoc_cons {α : Type} (p : List α) (a : α) (r : List α) : p ++ a :: r = (p ++ [a]) ++ r := by simp
theorem markSlotS_l : ∀ (l p : List S92) (a k : Nat), p.length + l.length ≤ 1099511627776 → a + 2 * l.length ≤ 1099511627776 → l.length < k → laws_markSlotS.l0 k (p ++ l) (a : Int) (p.length : Int) = some (((a + 2 * l.length : Nat) : Int), p ++ mkSlots l a) := by
 intro l
 induction l with
 | nil =>
  intro p a k hp ha hk
  obtain ⟨k, rfl⟩ : ∃ q, k = q + 1 := ⟨k - 1, by omega⟩
  simp only [laws_markSlotS.l0]
  rw [if_neg (by simp)]; simp [mkSlots]
 | cons x l ih =>
  intro p a k hp ha hk
  simp only [List.length_cons] at hp ha hk
  obtain ⟨k, rfl⟩ : ∃ q, k = q + 1 := ⟨k - 1, by omega⟩
  simp only [laws_markSlotS.l0]
  have a1 : wrap64 ((a : Int) + 1) = ((a + 1 : Nat) : Int) := by rw [w64 (by omega) (by omega)]; omega
  have a2 : wrap64 (((a + 1 : Nat) : Int) + 1) = ((a + 2 : Nat) : Int) := by rw [w64 (by omega) (by omega)]; omega
  rw [if_pos (by rw [List.length_append, List.length_cons]; omega), if_pos (by omega), bsome]
  simp only [setm, rdm_slot]
  rw [a1, a2, wnext (i := p.length) (n := p.length + l.length + 1) (by omega) (by omega)]
  have := ih (p ++ [⟨(a : Int), ((a + 1 : Nat) : Int)⟩]) (a + 2) k (by rw [List.length_append]; simp only [List.length_cons, List.length_nil]; omega) (by omega) (by omega)
  rw [List.length_append, ← snoc_cons, ← snoc_cons] at this
  rw [show ((p.length + 1 : Nat) : Int) = ((p.length + [(⟨(a : Int), ((a + 1 : Nat) : Int)⟩ : S92)].length : Nat) : Int) from rfl, this]
  simp only [mkSlots, List.length_cons]
  rw [show a + 2 + 2 * l.length = a + 2 * (l.length + 1) by omega]
theorem markSlotS_at (l : List S92) (a k : Nat) (h : l.length ≤ 1099511627776) (ha : a + 2 * l.length ≤ 1099511627776) (hk : l.length < k) : laws_markSlotS.f k l (a : Int) = some (((a + 2 * l.length : Nat) : Int), mkSlots l a) := by
 have := markSlotS_l l [] a k (by simpa using h) ha hk
 simpa [laws_markSlotS.f] using this
theorem heldSlotS_l : ∀ (l p : List S92) (a k : Nat), p.length + l.length ≤ 1099511627776 → a + 2 * l.length ≤ 1099511627776 → l.length < k → laws_heldSlotS.l0 k (p ++ mkSlots l a) (a : Int) (p.length : Int) = some ((a + 2 * l.length : Nat) : Int) := by
 intro l
 induction l with
 | nil =>
  intro p a k hp ha hk
  obtain ⟨k, rfl⟩ : ∃ q, k = q + 1 := ⟨k - 1, by omega⟩
  rw [show mkSlots [] a = [] from rfl]
  simp only [laws_heldSlotS.l0]
  rw [if_neg (by simp)]; simp
 | cons x l ih =>
  intro p a k hp ha hk
  simp only [List.length_cons] at hp ha hk
  obtain ⟨k, rfl⟩ : ∃ q, k = q + 1 := ⟨k - 1, by omega⟩
  rw [show mkSlots (x :: l) a = ⟨(a : Int), ((a + 1 : Nat) : Int)⟩ :: mkSlots l (a + 2) from rfl]
  simp only [laws_heldSlotS.l0]
  have a1 : wrap64 ((a : Int) + 1) = ((a + 1 : Nat) : Int) := by rw [w64 (by omega) (by omega)]; omega
  have a2 : wrap64 (((a + 1 : Nat) : Int) + 1) = ((a + 2 : Nat) : Int) := by rw [w64 (by omega) (by omega)]; omega
  rw [if_pos (by rw [List.length_append, List.length_cons]; omega), if_pos (by omega)]
  simp only [rdm_slot]
  rw [a1, a2]
  simp only [if_true]
  rw [wnext (i := p.length) (n := p.length + l.length + 1) (by omega) (by omega)]
  have := ih (p ++ [⟨(a : Int), ((a + 1 : Nat) : Int)⟩]) (a + 2) k (by rw [List.length_append]; simp only [List.length_cons, List.length_nil]; omega) (by omega) (by omega)
  rw [List.length_append, ← snoc_cons] at this
  rw [show ((p.length + 1 : Nat) : Int) = ((p.length + [(⟨(a : Int), ((a + 1 : Nat) : Int)⟩ : S92)].length : Nat) : Int) from rfl, this]
  simp only [List.length_cons]
  rw [show a + 2 + 2 * l.length = a + 2 * (l.length + 1) by omega]
theorem heldSlotS_at (l : List S92) (a k : Nat) (h : l.length ≤ 1099511627776) (ha : a + 2 * l.length ≤ 1099511627776) (hk : l.length < k) : laws_heldSlotS.f k (mkSlots l a) (a : Int) = some ((a + 2 * l.length : Nat) : Int) := by
 have := heldSlotS_l l [] a k (by simpa using h) ha hk
 simpa [laws_heldSlotS.f] using this
def cEff (x : S72) : S75 := ⟨x.f0, x.f1.map cSlot⟩
theorem rd_leff {l : List S72} {i : Nat} (h : i < l.length) : rd_T72 l (i : Int) = l[i] := getD_at z72 h
theorem rd_eff {l : List S75} {i : Nat} (h : i < l.length) : rd_T75 l (i : Int) = l[i] := getD_at z75 h
theorem rd_pls {l : List (List S92)} {i : Nat} (h : i < l.length) : rd_L5 l (i : Int) = l[i] := getD_at [] h
def szEff (x : S72) : Nat := x.f1.length
def szEffs (l : List S72) : Nat := l.length + (l.map szEff).sum
theorem toEffS_at (l : List S72) (hl : szEffs l ≤ 1048576) (k : Nat) (hk : 2097160 < k) : laws_toEffectS.f k l = some (l.map cEff) := by
 have hlen : l.length ≤ 1048576 := by unfold szEffs at hl; omega
 unfold laws_toEffectS.f
 rw [if_pos (by omega), if_pos (by omega)]
 exact map_loop l (fun k acc i => laws_toEffectS.l0 k l acc i) cEff z75 1048577 1 (by omega)
  (fun k acc _ => by simp only [laws_toEffectS.l0]; rw [if_neg (by omega)])
  (fun k acc i h hk ha => by
   have hs : szEff l[i] ≤ 1048576 := by
    have := sum_mem (sz := szEff) (List.getElem_mem h)
    unfold szEffs at hl; omega
   have hs' : l[i].f1.length ≤ 1048576 := hs
   simp only [laws_toEffectS.l0]
   rw [if_pos (by omega), if_pos (by omega), rd_leff h]
   unfold laws_toEffect.f
   rw [toSlotS_at _ (by omega) k (by omega), bsome, bsome]
   rw [if_pos (by omega), wnext h (by omega)]; rfl) k (by omega)
theorem szEffS_at (l : List S72) (hl : l.length ≤ maxLen) (hg : ∀ x ∈ l, x.f1.length ≤ maxLen) (n : Int) (hn : 0 ≤ n ∧ n ≤ 1048576) (k : Nat) (hk : 2097160 < k) : ∃ r, laws_szEffectS.f k l n = some r ∧ r ≤ n ∧ (0 ≤ r → r = n - szEffs l) := by
 have hm : l.length ≤ 9223372036854775807 := hl
 unfold laws_szEffectS.f
 rw [w64 (by omega) (by omega)]
 by_cases h : n - (l.length : Int) < 0
 ·rw [if_pos h]; exact ⟨_, rfl, by omega, by omega⟩
 ·rw [if_neg h]
  obtain ⟨r, h1, h2, h3⟩ := sz_loop l (fun k left i => laws_szEffectS.l0 k l left i) szEff 1048579 1 (by omega)
   (fun k left _ => by simp only [laws_szEffectS.l0]; rw [if_neg (by omega)])
   (fun k left i h hk h0 h1 => by
    obtain ⟨t, t1, t2, t3⟩ := szSlotS_at l[i].f1 left ⟨h0, h1⟩ (hg _ (List.getElem_mem h))
    simp only [laws_szEffectS.l0]
    rw [if_pos (by omega), if_pos (by omega), rd_leff h]
    unfold laws_szEffect.f
    rw [t1, bsome]
    by_cases ht : t < 0
    ·exact ⟨-1, by omega, by omega, by rw [if_pos ht, bsome, if_pos (by omega), if_pos (by omega)]⟩
    ·exact ⟨t, t3, t2, by rw [if_neg ht, bsome, if_neg ht, if_neg ht, wnext h (by omega)]⟩) k (n - (l.length : Int)) (by omega) (by omega) (by omega)
  refine ⟨r, h1, by omega, fun hr => ?_⟩
  have := h3 hr
  unfold szEffs
  omega
theorem effs_EB {l : List S72} {n : Nat} (h : szEffs l ≤ n) : l.length ≤ n ∧ ∀ c ∈ l.map cEff, c.f1.length ≤ n := by
 unfold szEffs at h
 refine ⟨by omega, fun c hc => ?_⟩
 obtain ⟨y, hy, rfl⟩ := List.mem_map.1 hc
 have h1 : szEff y ≤ (l.map szEff).sum := sum_mem (sz := szEff) hy
 have h2 : szEff y = y.f1.length := rfl
 show (y.f1.map cSlot).length ≤ n
 rw [List.length_map]; omega
theorem eqEffS_refl (l : List S75) (hl : l.length ≤ 1048576) (hc : ∀ c ∈ l, c.f1.length ≤ 1048576) (k : Nat) (hk : 2097160 < k) : laws_eqEffectS.f k l l = some true := by
 unfold laws_eqEffectS.f
 rw [if_pos rfl]
 have := all_loop l (fun k i => laws_eqEffectS.l0 k l l i) (fun _ => true) true 1048578 1 (by omega)
  (fun k _ => by simp only [laws_eqEffectS.l0]; rw [if_neg (by omega)])
  (fun k i h hk => by
   have c0 := hc _ (List.getElem_mem h)
   simp only [laws_eqEffectS.l0]
   rw [if_pos (by omega), if_pos (by omega), if_pos (by omega), rd_eff h]
   unfold laws_eqEffect.f
   rw [if_pos rfl]
   simp only [eqSlotS_refl l[i].f1 (by omega) k (by omega), bsome, if_true, wnext h (show l.length ≤ 4611686018427387904 by omega)]) k (by omega)
 rw [this]; congr 1; simp [List.all_eq_true]
theorem eqPls_refl (l : List (List S92)) (hl : l.length ≤ 1048576) (hc : ∀ c ∈ l, c.length ≤ 1048576) (k : Nat) (hk : 2097160 < k) : laws_eqSlotSS.f k l l = some true := by
 unfold laws_eqSlotSS.f
 rw [if_pos rfl]
 have := all_loop l (fun k i => laws_eqSlotSS.l0 k l l i) (fun _ => true) true 1048578 1 (by omega)
  (fun k _ => by simp only [laws_eqSlotSS.l0]; rw [if_neg (by omega)])
  (fun k i h hk => by
   have c0 := hc _ (List.getElem_mem h)
   simp only [laws_eqSlotSS.l0]
   rw [if_pos (by omega), if_pos (by omega), if_pos (by omega), rd_pls h]
   simp only [eqSlotS_refl l[i] (by omega) k (by omega), bsome, if_true, wnext h (show l.length ≤ 4611686018427387904 by omega)]) k (by omega)
 rw [this]; congr 1; simp [List.all_eq_true]
def szme (c : S75) : Nat := 1 + 2 * c.f1.length
def szmes (l : List S75) : Nat := (l.map szme).sum
theorem szmes_cons (c : S75) (l : List S75) : szmes (c :: l) = 1 + 2 * c.f1.length + szmes l := by unfold szmes; rw [List.map_cons, List.sum_cons]; rfl
def mkEffs : List S75 → Nat → List S75
 | [], _ => []
 | c :: xs, a => ⟨(a : Int), mkSlots c.f1 (a + 1)⟩ :: mkEffs xs (a + (1 + 2 * c.f1.length))
theorem rdm_eff (p : List S75) (x : S75) (r : List S75) : rd_T75 (p ++ x :: r) (p.length : Int) = x := by
 unfold rd_T75
 simp [List.getD_eq_getElem?_getD]
theorem markEffS_l : ∀ (l p : List S75) (a k : Nat), p.length + l.length ≤ 1099511627776 → a + szmes l ≤ 1099511627776 → a + 2 * szmes l + l.length < k → laws_markEffectS.l0 k (p ++ l) (a : Int) (p.length : Int) = some (((a + szmes l : Nat) : Int), p ++ mkEffs l a) := by
 intro l
 induction l with
 | nil =>
  intro p a k hp ha hk
  obtain ⟨k, rfl⟩ : ∃ q, k = q + 1 := ⟨k - 1, by omega⟩
  simp only [laws_markEffectS.l0]
  rw [if_neg (by simp)]; simp [mkEffs, szmes]
 | cons x l ih =>
  intro p a k hp ha hk
  rw [szmes_cons] at ha hk
  simp only [List.length_cons] at hp hk
  obtain ⟨k, rfl⟩ : ∃ q, k = q + 1 := ⟨k - 1, by omega⟩
  simp only [laws_markEffectS.l0]
  have a1 : wrap64 ((a : Int) + 1) = ((a + 1 : Nat) : Int) := by rw [w64 (by omega) (by omega)]; omega
  rw [if_pos (by rw [List.length_append, List.length_cons]; omega), if_pos (by omega), rdm_eff, a1, markSlotS_at x.f1 (a + 1) k (by omega) (by omega) (by omega), bsome, setm, wnext (i := p.length) (n := p.length + l.length + 1) (by omega) (by omega)]
  have := ih (p ++ [⟨(a : Int), mkSlots x.f1 (a + 1)⟩]) (a + (1 + 2 * x.f1.length)) k (by rw [List.length_append]; simp only [List.length_cons, List.length_nil]; omega) (by omega) (by omega)
  rw [List.length_append, ← snoc_cons, ← snoc_cons] at this
  simp only [mkEffs]
  rw [szmes_cons, ← Nat.add_assoc a, ← this, show a + 1 + 2 * x.f1.length = a + (1 + 2 * x.f1.length) by omega]; rfl
theorem markEffS_at (l : List S75) (a k : Nat) (h : l.length ≤ 1099511627776) (ha : a + szmes l ≤ 1099511627776) (hk : a + 2 * szmes l + l.length < k) : laws_markEffectS.f k l (a : Int) = some (((a + szmes l : Nat) : Int), mkEffs l a) := by
 have := markEffS_l l [] a k (by simpa using h) ha hk
 simpa [laws_markEffectS.f] using this
def szmp (l : List (List S92)) : Nat := (l.map (fun c => 2 * c.length)).sum
theorem szmp_cons (c : List S92) (l : List (List S92)) : szmp (c :: l) = 2 * c.length + szmp l := by unfold szmp; rw [List.map_cons, List.sum_cons]
def mkPls : List (List S92) → Nat → List (List S92)
 | [], _ => []
 | c :: xs, a => mkSlots c a :: mkPls xs (a + 2 * c.length)
theorem rdm_pls (p : List (List S92)) (x : List S92) (r : List (List S92)) : rd_L5 (p ++ x :: r) (p.length : Int) = x := by
 unfold rd_L5
 simp [List.getD_eq_getElem?_getD]
theorem markPls_l : ∀ (l p : List (List S92)) (a k : Nat), p.length + l.length ≤ 1099511627776 → a + szmp l ≤ 1099511627776 → a + 2 * szmp l + l.length < k → laws_markSlotSS.l0 k (p ++ l) (a : Int) (p.length : Int) = some (((a + szmp l : Nat) : Int), p ++ mkPls l a) := by
 intro l
 induction l with
 | nil =>
  intro p a k hp ha hk
  obtain ⟨k, rfl⟩ : ∃ q, k = q + 1 := ⟨k - 1, by omega⟩
  simp only [laws_markSlotSS.l0]
  rw [if_neg (by simp)]; simp [mkPls, szmp]
 | cons x l ih =>
  intro p a k hp ha hk
  rw [szmp_cons] at ha hk
  simp only [List.length_cons] at hp hk
  obtain ⟨k, rfl⟩ : ∃ q, k = q + 1 := ⟨k - 1, by omega⟩
  simp only [laws_markSlotSS.l0]
  rw [if_pos (by rw [List.length_append, List.length_cons]; omega), if_pos (by omega), rdm_pls, markSlotS_at x a k (by omega) (by omega) (by omega), bsome, setm, wnext (i := p.length) (n := p.length + l.length + 1) (by omega) (by omega)]
  have := ih (p ++ [mkSlots x a]) (a + 2 * x.length) k (by rw [List.length_append]; simp only [List.length_cons, List.length_nil]; omega) (by omega) (by omega)
  rw [List.length_append, ← snoc_cons, ← snoc_cons] at this
  simp only [mkPls]
  rw [szmp_cons, ← Nat.add_assoc a, ← this]; rfl
theorem markPls_at (l : List (List S92)) (a k : Nat) (h : l.length ≤ 1099511627776) (ha : a + szmp l ≤ 1099511627776) (hk : a + 2 * szmp l + l.length < k) : laws_markSlotSS.f k l (a : Int) = some (((a + szmp l : Nat) : Int), mkPls l a) := by
 have := markPls_l l [] a k (by simpa using h) ha hk
 simpa [laws_markSlotSS.f] using this
theorem heldPls_l : ∀ (l p : List (List S92)) (a k : Nat), p.length + l.length ≤ 1099511627776 → a + szmp l ≤ 1099511627776 → a + 2 * szmp l + l.length < k → laws_heldSlotSS.l0 k (p ++ mkPls l a) (a : Int) (p.length : Int) = some ((a + szmp l : Nat) : Int) := by
 intro l
 induction l with
 | nil =>
  intro p a k hp ha hk
  obtain ⟨k, rfl⟩ : ∃ q, k = q + 1 := ⟨k - 1, by omega⟩
  rw [show mkPls [] a = [] from rfl]
  simp only [laws_heldSlotSS.l0]
  rw [if_neg (by simp)]; simp [szmp]
 | cons x l ih =>
  intro p a k hp ha hk
  rw [szmp_cons] at ha hk
  simp only [List.length_cons] at hp hk
  obtain ⟨k, rfl⟩ : ∃ q, k = q + 1 := ⟨k - 1, by omega⟩
  rw [show mkPls (x :: l) a = mkSlots x a :: mkPls l (a + 2 * x.length) from rfl]
  simp only [laws_heldSlotSS.l0]
  rw [if_pos (by rw [List.length_append, List.length_cons]; omega), if_pos (by omega)]
  simp only [rdm_pls]
  rw [heldSlotS_at x a k (by omega) (by omega) (by omega), bsome, if_neg (by omega), wnext (i := p.length) (n := p.length + l.length + 1) (by omega) (by omega)]
  have := ih (p ++ [mkSlots x a]) (a + 2 * x.length) k (by rw [List.length_append]; simp only [List.length_cons, List.length_nil]; omega) (by omega) (by omega)
  rw [List.length_append, ← snoc_cons] at this
  rw [szmp_cons, show a + (2 * x.length + szmp l) = a + 2 * x.length + szmp l by omega, ← this]; rfl
theorem heldPls_at (l : List (List S92)) (a k : Nat) (h : l.length ≤ 1099511627776) (ha : a + szmp l ≤ 1099511627776) (hk : a + 2 * szmp l + l.length < k) : laws_heldSlotSS.f k (mkPls l a) (a : Int) = some ((a + szmp l : Nat) : Int) := by
 have := heldPls_l l [] a k (by simpa using h) ha hk
 simpa [laws_heldSlotSS.f] using this
theorem szmes_le (l : List S75) (n : Nat) (h : ∀ c ∈ l, c.f1.length ≤ n) : szmes l ≤ l.length * (1 + 2 * n) := by
 induction l with
 | nil => simp [szmes]
 | cons c l ih =>
  have h1 := ih fun d hd => h d (by simp [hd])
  have h2 := h c (by simp)
  rw [szmes_cons, List.length_cons, Nat.add_mul]; omega
theorem szmp_le (l : List (List S92)) (n : Nat) (h : ∀ c ∈ l, c.length ≤ n) : szmp l ≤ l.length * (2 * n) := by
 induction l with
 | nil => simp [szmp]
 | cons c l ih =>
  have h1 := ih fun d hd => h d (by simp [hd])
  have h2 := h c (by simp)
  rw [szmp_cons, List.length_cons, Nat.add_mul]; omega
def effOk (e : S75) : Bool := plOk e.f1 && decide (0 ≤ e.f0 ∧ e.f0 ≤ 2)
def slAt (w : List S92) : List (List S92) → Nat → Int
 | [], _ => -1
 | c :: cs, i => if cmp c w = 0 then (i : Int) else slAt w cs (i + 1)
def liveR : List (List S92) → List S75 → List (List S92) × Bool
 | live, [] => (live, true)
 | live, e :: r =>
  if effOk e = true then
   if (decide (slAt e.f1 live 0 ≥ 0) == (e.f0 == 1)) = true then ([], false)
   else if e.f0 = 1 then liveR (live ++ [e.f1]) r
   else if e.f0 = 0 then liveR (live.take (slAt e.f1 live 0).toNat ++ live.drop ((slAt e.f1 live 0).toNat + 1)) r
   else liveR live r
  else ([], false)
theorem slAt_cons (w c : List S92) (cs : List (List S92)) (i : Nat) : slAt w (c :: cs) i = if cmp c w = 0 then (i : Int) else slAt w cs (i + 1) := rfl
theorem slAt_in (w : List S92) (l : List (List S92)) : ∀ i, slAt w l i < (i + l.length : Nat) ∧ (slAt w l i = -1 ∨ (i : Int) ≤ slAt w l i) := by
 induction l with
 | nil => intro i; exact ⟨by show (-1 : Int) < _; omega, .inl rfl⟩
 | cons c cs ih =>
  intro i
  rw [slAt_cons, List.length_cons]
  by_cases h : cmp c w = 0
  ·rw [if_pos h]; exact ⟨by omega, .inr (by omega)⟩
  ·rw [if_neg h]; have := ih (i + 1); exact ⟨by omega, by omega⟩
theorem slAt_none (w : List S92) (l : List (List S92)) : ∀ i, w ∉ l → slAt w l i = -1 := by
 induction l with
 | nil => intro i _; rfl
 | cons c cs ih =>
  intro i h
  rw [slAt_cons, if_neg (fun e => h (by rw [cmp_zero e]; simp))]
  exact ih (i + 1) fun q => h (by simp [q])
theorem slAt_mem {w : List S92} {l : List (List S92)} : ∀ i, slAt w l i < 0 → w ∉ l := by
 induction l with
 | nil => intro i _ h; cases h
 | cons c cs ih =>
  intro i h q
  rw [slAt_cons] at h
  by_cases e : cmp c w = 0
  ·rw [if_pos e] at h; omega
  ·rw [if_neg e] at h
   rcases List.mem_cons.1 q with rfl | q
   ·exact e (cmp_refl _)
   ·exact ih (i + 1) h q
def laAt (w : List S92) : List (List S92) → Nat → Int → Int
 | [], _, x => x
 | c :: cs, i, x => if cmp c w = 0 then laAt w cs (i + 1) (i : Int) else laAt w cs (i + 1) x
theorem laAt_cons (w c : List S92) (cs : List (List S92)) (i : Nat) (x : Int) : laAt w (c :: cs) i x = if cmp c w = 0 then laAt w cs (i + 1) (i : Int) else laAt w cs (i + 1) x := rfl
theorem laAt_none (w : List S92) (l : List (List S92)) : ∀ i x, w ∉ l → laAt w l i x = x := by
 induction l with
 | nil => intro i x _; rfl
 | cons c cs ih =>
  intro i x h
  rw [laAt_cons, if_neg (fun e => h (by rw [cmp_zero e]; simp))]
  exact ih (i + 1) x fun q => h (by simp [q])
theorem laAt_eq (w : List S92) (l : List (List S92)) (hn : l.Nodup) : ∀ i, laAt w l i (-1) = slAt w l i := by
 induction l with
 | nil => intro i; rfl
 | cons c cs ih =>
  intro i
  rw [List.nodup_cons] at hn
  rw [laAt_cons, slAt_cons]
  by_cases e : cmp c w = 0
  ·rw [if_pos e, if_pos e, laAt_none]
   rw [← cmp_zero e]; exact hn.1
  ·rw [if_neg e, if_neg e]; exact ih hn.2 (i + 1)
def LB (n : Nat) (l : List (List S92)) : Prop := l.length ≤ n ∧ (∀ c ∈ l, c.length ≤ 20) ∧ l.Nodup
theorem LB_snoc {n : Nat} {l : List (List S92)} {w : List S92} (h : LB n l) (hw : w.length ≤ 20) (hn : w ∉ l) : LB (n + 1) (l ++ [w]) := by
 refine ⟨by rw [List.length_append]; have := h.1; simp only [List.length_cons, List.length_nil]; omega, fun c hc => ?_, ?_⟩
 ·rcases List.mem_append.1 hc with hc | hc
  ·exact h.2.1 c hc
  ·rw [List.mem_singleton.1 hc]; exact hw
 ·rw [List.nodup_append]
  exact ⟨h.2.2, List.nodup_cons.2 ⟨by simp, List.nodup_nil⟩, fun a ha b hb e => hn (by rw [List.mem_singleton.1 hb] at e; rw [← e]; exact ha)⟩
theorem LB_cut {n : Nat} {l : List (List S92)} (j : Nat) (h : LB n l) : LB n (l.take j ++ l.drop (j + 1)) := by
 have hs : (l.take j ++ l.drop (j + 1)).Sublist l := by rw [← List.eraseIdx_eq_take_drop_succ]; exact List.eraseIdx_sublist l j
 exact ⟨Nat.le_trans hs.length_le h.1, fun c hc => h.2.1 c (hs.subset hc), h.2.2.sublist hs⟩
theorem LB_nil (n : Nat) : LB n [] := ⟨Nat.zero_le _, fun c hc => by simp at hc, List.nodup_nil⟩
theorem LB_mono {n m : Nat} {l : List (List S92)} (h : LB n l) (hm : n ≤ m) : LB m l := ⟨Nat.le_trans h.1 hm, h.2⟩
theorem effOk_len {e : S75} (h : effOk e = true) : e.f1.length ≤ 20 := by
 simp only [effOk, plOk, Bool.and_eq_true, decide_eq_true_eq] at h; exact h.1.2
theorem liveR_LB (l : List S75) : ∀ (live : List (List S92)) (n : Nat), LB n live → LB (n + l.length) (liveR live l).1 := by
 induction l with
 | nil => intro live n h; exact h
 | cons e r ih =>
  intro live n h
  have h0 : LB (n + (e :: r).length) [] := LB_nil _
  unfold liveR
  by_cases ho : effOk e = true
  ·rw [if_pos ho]
   by_cases hb : (decide (slAt e.f1 live 0 ≥ 0) == (e.f0 == 1)) = true
   ·rw [if_pos hb]; exact h0
   ·rw [if_neg hb]
    by_cases h1 : e.f0 = 1
    ·rw [if_pos h1]
     have hw : e.f1 ∉ live := slAt_mem 0 (by
      rw [h1] at hb
      by_cases q : slAt e.f1 live 0 ≥ 0
      ·simp [q] at hb
      ·omega)
     exact LB_mono (ih _ (n + 1) (LB_snoc h (effOk_len ho) hw)) (by rw [List.length_cons]; omega)
    ·rw [if_neg h1]
     by_cases h2 : e.f0 = 0
     ·rw [if_pos h2]; exact LB_mono (ih _ n (LB_cut _ h)) (by rw [List.length_cons]; omega)
     ·rw [if_neg h2]; exact LB_mono (ih _ n h) (by rw [List.length_cons]; omega)
  ·rw [if_neg ho]; exact h0
theorem liveR_bad (l : List S75) (h : l.all effOk = false) : ∀ live, liveR live l = ([], false) := by
 induction l with
 | nil => simp at h
 | cons e r ih =>
  intro live
  unfold liveR
  by_cases ho : effOk e = true
  ·rw [List.all_cons, ho, Bool.true_and] at h
   rw [if_pos ho]
   repeat' split
   all_goals first
    | rfl
    | exact ih h _
  ·rw [if_neg ho]
theorem slotsAt_l (w : List S92) (hw : w.length ≤ 1048576) (l : List (List S92)) (hl : l.length ≤ 1048576) (hc : ∀ c ∈ l, c.length ≤ 20) : ∀ d i k, l.length - i = d → i ≤ l.length → d + 70 < k → spec_slotsAt.l0 k l w (i : Int) = some (slAt w (l.drop i) i) := by
 intro d
 induction d with
 | zero =>
  intro i k hd hi hk
  obtain ⟨k, rfl⟩ : ∃ q, k = q + 1 := ⟨k - 1, by omega⟩
  obtain rfl : i = l.length := by omega
  simp only [spec_slotsAt.l0]
  rw [if_neg (by omega), List.drop_length]; rfl
 | succ d ih =>
  intro i k hd hi hk
  obtain ⟨k, rfl⟩ : ∃ q, k = q + 1 := ⟨k - 1, by omega⟩
  have h : i < l.length := by omega
  have h20 : l[i].length ≤ 20 := hc _ (List.getElem_mem h)
  simp only [spec_slotsAt.l0]
  rw [if_pos (by omega), if_pos (by omega), rd_pls h, spec_cmp_at _ _ (by omega) (by omega) k (by omega), bsome, drop_cons h, slAt_cons]
  by_cases e : cmp l[i] w = 0
  ·rw [if_pos e, if_pos e]
  ·rw [if_neg e, if_neg e, wnext h (by omega)]; exact ih (i + 1) k (by omega) (by omega) (by omega)
theorem slotsAt_at (w : List S92) (hw : w.length ≤ 1048576) (l : List (List S92)) (hl : l.length ≤ 1048576) (hc : ∀ c ∈ l, c.length ≤ 20) (k : Nat) (hk : l.length + 70 < k) : spec_slotsAt.f k l w = some (slAt w l 0) :=
 slotsAt_l w hw l hl hc l.length 0 k rfl (by omega) hk
theorem spec_live_l (l : List S75) (hl : l.length ≤ 400) (hc : ∀ c ∈ l, c.f1.length ≤ 1048576) : ∀ d i k live, l.length - i = d → i ≤ l.length → LB i live → 2 * d + 1049600 < k → spec_EffectsLive.l0 k l live (i : Int) = some (liveR live (l.drop i)) := by
 intro d
 induction d with
 | zero =>
  intro i k live hd hi hlb hk
  obtain ⟨k, rfl⟩ : ∃ q, k = q + 1 := ⟨k - 1, by omega⟩
  obtain rfl : i = l.length := by omega
  simp only [spec_EffectsLive.l0]
  rw [if_neg (by omega), List.drop_length]; rfl
 | succ d ih =>
  intro i k live hd hi hlb hk
  obtain ⟨k, rfl⟩ : ∃ q, k = q + 2 := ⟨k - 2, by omega⟩
  have h : i < l.length := by omega
  have hc1 : l[i].f1.length ≤ 1048576 := hc _ (List.getElem_mem h)
  have hll : live.length ≤ 400 := by have := hlb.1; omega
  obtain ⟨s1, s2⟩ := slAt_in l[i].f1 live 0
  rw [Nat.zero_add] at s1
  rw [drop_cons h]
  unfold liveR
  have jt : spec_EffectsLive.j1 (k + 1) l live (i : Int) (slAt l[i].f1 live 0) true = some ([], false) := by
   simp only [spec_EffectsLive.j1]
   rw [if_pos trivial]
  have jf : effOk l[i] = true → (decide (slAt l[i].f1 live 0 ≥ 0) == (l[i].f0 == 1)) = false → spec_EffectsLive.j1 (k + 1) l live (i : Int) (slAt l[i].f1 live 0) false = some (if l[i].f0 = 1 then liveR (live ++ [l[i].f1]) (l.drop (i + 1)) else if l[i].f0 = 0 then liveR (live.take (slAt l[i].f1 live 0).toNat ++ live.drop ((slAt l[i].f1 live 0).toNat + 1)) (l.drop (i + 1)) else liveR live (l.drop (i + 1))) := by
   intro ho hb
   simp only [spec_EffectsLive.j1]
   rw [if_neg (by decide), if_pos (by omega), if_pos (by omega), rd_eff h]
   by_cases h1 : l[i].f0 = 1
   ·have hw : l[i].f1 ∉ live := slAt_mem 0 (by
     rw [h1] at hb
     by_cases q : slAt l[i].f1 live 0 ≥ 0
     ·simp [q] at hb
     ·omega)
    rw [if_pos h1, if_pos h1, bsome, if_pos (by rw [List.length_nil]; omega), if_pos (by omega), wnext h (by omega), List.nil_append]
    exact ih (i + 1) k _ (by omega) (by omega) (LB_snoc hlb (effOk_len ho) hw) (by omega)
   ·rw [if_neg h1, if_neg h1]
    by_cases h0 : l[i].f0 = 0
    ·have hge : slAt l[i].f1 live 0 ≥ 0 := by
      by_cases q : slAt l[i].f1 live 0 ≥ 0
      ·exact q
      ·rw [h0] at hb; simp [q] at hb
     have hw1 : wrap64 (slAt l[i].f1 live 0 + 1) = slAt l[i].f1 live 0 + 1 := w64 (by omega) (by omega)
     have ht : (slAt l[i].f1 live 0 + 1).toNat = (slAt l[i].f1 live 0).toNat + 1 := by omega
     rw [if_pos h0, if_pos h0, bsome, if_pos hge, if_pos (by omega), bsome, if_pos (by rw [List.length_nil, List.length_take]; omega), bsome, hw1, if_pos (by omega), if_pos (by omega), bsome, if_pos (by rw [List.length_append, List.length_nil, List.length_take, List.length_drop]; omega), ht, List.nil_append, wnext h (by omega)]
     exact ih (i + 1) k _ (by omega) (by omega) (LB_mono (LB_cut _ hlb) (by omega)) (by omega)
    ·rw [if_neg h0, if_neg h0, wnext h (by omega)]
     exact ih (i + 1) k _ (by omega) (by omega) (LB_mono hlb (by omega)) (by omega)
  simp only [spec_EffectsLive.l0]
  rw [if_pos (by omega), if_pos (by omega), rd_eff h, slotsAt_at _ hc1 live (by omega) hlb.2.1 (k + 1) (by omega), bsome, spec_place_at _ (by omega) (k + 1) (by omega), bsome]
  simp only [inRange_at, bsome]
  by_cases hp : plOk l[i].f1 = true
  ·rw [if_pos hp]
   by_cases hr : 0 ≤ l[i].f0 ∧ l[i].f0 ≤ 2
   ·have ho : effOk l[i] = true := by unfold effOk; rw [hp, decide_eq_true hr]; rfl
    rw [decide_eq_true hr, if_pos rfl, if_pos ho]
    by_cases hb : (decide (slAt l[i].f1 live 0 ≥ 0) == (l[i].f0 == 1)) = true
    ·rw [if_pos hb, hb]; exact jt
    ·rw [Bool.not_eq_true] at hb
     rw [hb, if_neg (by decide)]; exact jf ho hb
   ·have ho : ¬ effOk l[i] = true := by unfold effOk; rw [decide_eq_false hr, Bool.and_false]; decide
    rw [decide_eq_false hr, if_neg (by decide), if_neg ho]; exact jt
  ·have ho : ¬ effOk l[i] = true := by unfold effOk; rw [Bool.not_eq_true] at hp; rw [hp, Bool.false_and]; decide
   rw [if_neg hp, if_neg ho]; exact jt
def effR (l : List S75) : List (List S92) × Bool := if l.length > 400 then ([], false) else liveR [] l
theorem effR_LB (l : List S75) : LB 400 (effR l).1 := by
 unfold effR
 by_cases h : l.length > 400
 ·rw [if_pos h]; exact LB_nil _
 ·rw [if_neg h]; exact LB_mono (liveR_LB l [] 0 (LB_nil _)) (by omega)
theorem spec_effR (l : List S75) (hc : ∀ c ∈ l, c.f1.length ≤ 1048576) (k : Nat) (hk : 1050600 < k) : spec_EffectsLive.f k l = some (effR l) := by
 unfold spec_EffectsLive.f effR
 by_cases h : l.length > 400
 ·rw [if_pos h, if_pos (by omega)]
 ·rw [if_neg h, if_neg (by omega)]
  exact spec_live_l l (by omega) hc l.length 0 k [] rfl (by omega) (LB_nil _) (by omega)
theorem placeCopy_at (l : List S92) (hl : l.length ≤ 1048576) : impl_placeCopy.f l = some l := by
 unfold impl_placeCopy.f
 rw [if_pos (by rw [List.length_nil]; omega), List.nil_append]
def stepI (k : Nat) (l : List S75) (i : Int) (live : List (List S92)) (at_ : Int) (e : S75) : Option (List (List S92) × Bool) :=
 if (decide (at_ ≥ 0) == (e.f0 == 1)) = true then some ([], false)
 else if e.f0 = 1 then impl_EffectsLive.l1 k (live ++ [e.f1]) l (l.length : Int) (wrap64 (i + 1))
 else if e.f0 = 0 then impl_EffectsLive.l1 k (live.take at_.toNat ++ live.drop (at_.toNat + 1)) l (l.length : Int) (wrap64 (i + 1))
 else impl_EffectsLive.l1 k live l (l.length : Int) (wrap64 (i + 1))
theorem impl_search (l : List S75) (i : Int) (e : S75) (he : e.f1.length ≤ 20) (live : List (List S92)) (hl : live.length ≤ 400) (hc : ∀ c ∈ live, c.length ≤ 20) : ∀ d j (x : Int) k, live.length - j = d → j ≤ live.length → -1 ≤ x → x < live.length → 70 < k → impl_EffectsLive.l2 (k + d + 1) live x l (l.length : Int) i live (live.length : Int) (j : Int) e.f0 e.f1 = stepI k l i live (laAt e.f1 (live.drop j) j x) e := by
 intro d
 induction d with
 | zero =>
  intro j x k hd hj hx0 hx1 hk
  obtain rfl : j = live.length := by omega
  rw [List.drop_length, show laAt e.f1 [] live.length x = x from rfl]
  simp only [impl_EffectsLive.l2, Nat.add_zero]
  rw [if_neg (by omega)]
  unfold stepI
  rw [Bool.beq_comm]
  by_cases hb : (decide (x ≥ 0) == (e.f0 == 1)) = true
  ·rw [if_pos hb, if_pos hb]
  ·rw [if_neg hb, if_neg hb]
   by_cases h1 : e.f0 = 1
   ·rw [if_pos h1, if_pos h1, placeCopy_at _ (by omega), bsome, if_pos (by omega)]
   ·rw [if_neg h1, if_neg h1]
    by_cases h0 : e.f0 = 0
    ·have hge : x ≥ 0 := by
      by_cases q : x ≥ 0
      ·exact q
      ·rw [h0] at hb; simp [q] at hb
     have hw1 : wrap64 (x + 1) = x + 1 := w64 (by omega) (by omega)
     have ht : (x + 1).toNat = x.toNat + 1 := by omega
     rw [if_pos h0, if_pos h0, bsome, if_pos hge, if_pos (by omega), bsome, if_pos (by rw [List.length_nil, List.length_take]; omega), bsome, hw1, if_pos (by omega), if_pos (by omega), bsome, if_pos (by rw [List.length_append, List.length_nil, List.length_take, List.length_drop]; omega), ht, List.nil_append]
    ·rw [if_neg h0, if_neg h0]
 | succ d ih =>
  intro j x k hd hj hx0 hx1 hk
  have h : j < live.length := by omega
  have h20 : live[j].length ≤ 20 := hc _ (List.getElem_mem h)
  rw [show k + (d + 1) + 1 = (k + d + 1) + 1 by omega]
  obtain ⟨m, hm⟩ : ∃ m, m = k + d + 1 := ⟨_, rfl⟩
  rw [← hm]
  simp only [impl_EffectsLive.l2]
  rw [hm, if_pos (by omega), if_pos (by omega), if_pos (by omega), rd_pls h, impl_cmp_at _ _ (by omega) (k + d + 1) (by omega), bsome, drop_cons h, laAt_cons, wnext h (by omega)]
  by_cases q : cmp live[j] e.f1 = 0
  ·rw [if_pos q, if_pos q]; exact ih (j + 1) (j : Int) k (by omega) (by omega) (by omega) (by omega) hk
  ·rw [if_neg q, if_neg q]; exact ih (j + 1) x k (by omega) (by omega) hx0 hx1 hk
theorem impl_live_l (l : List S75) (hl : l.length ≤ 400) (ha : ∀ c ∈ l, effOk c = true) : ∀ d i k live, l.length - i = d → i ≤ l.length → LB i live → 500 * d + 500 < k → impl_EffectsLive.l1 k live l (l.length : Int) (i : Int) = some (liveR live (l.drop i)) := by
 intro d
 induction d with
 | zero =>
  intro i k live hd hi hlb hk
  obtain ⟨k, rfl⟩ : ∃ q, k = q + 1 := ⟨k - 1, by omega⟩
  obtain rfl : i = l.length := by omega
  simp only [impl_EffectsLive.l1]
  rw [if_neg (by omega), List.drop_length]; rfl
 | succ d ih =>
  intro i k live hd hi hlb hk
  have h : i < l.length := by omega
  have ho : effOk l[i] = true := ha _ (List.getElem_mem h)
  have hll : live.length ≤ 400 := by have := hlb.1; omega
  obtain ⟨s1, s2⟩ := slAt_in l[i].f1 live 0
  rw [Nat.zero_add] at s1
  obtain ⟨k, rfl⟩ : ∃ q, k = (q + live.length + 1) + 1 := ⟨k - live.length - 2, by omega⟩
  rw [drop_cons h]
  unfold liveR
  rw [if_pos ho]
  simp only [impl_EffectsLive.l1]
  rw [if_pos (by omega), if_pos (by omega), if_pos (by omega), rd_eff h]
  have hs := impl_search l (i : Int) l[i] (effOk_len ho) live hll hlb.2.1 live.length 0 (-1) k (by omega) (by omega) (by omega) (by omega) (by omega)
  rw [show ((0 : Nat) : Int) = 0 from rfl] at hs
  rw [hs, List.drop_zero, laAt_eq _ _ hlb.2.2]
  unfold stepI
  rw [wnext h (by omega)]
  by_cases hb : (decide (slAt l[i].f1 live 0 ≥ 0) == (l[i].f0 == 1)) = true
  ·rw [if_pos hb, if_pos hb]
  ·rw [if_neg hb, if_neg hb]
   by_cases h1 : l[i].f0 = 1
   ·have hw : l[i].f1 ∉ live := slAt_mem 0 (by
     rw [h1] at hb
     by_cases q : slAt l[i].f1 live 0 ≥ 0
     ·simp [q] at hb
     ·omega)
    rw [if_pos h1, if_pos h1]
    exact ih (i + 1) k _ (by omega) (by omega) (LB_snoc hlb (effOk_len ho) hw) (by omega)
   ·rw [if_neg h1, if_neg h1]
    by_cases h0 : l[i].f0 = 0
    ·rw [if_pos h0, if_pos h0]
     exact ih (i + 1) k _ (by omega) (by omega) (LB_mono (LB_cut _ hlb) (by omega)) (by omega)
    ·rw [if_neg h0, if_neg h0]
     exact ih (i + 1) k _ (by omega) (by omega) (LB_mono hlb (by omega)) (by omega)
theorem impl_first_l (l : List S75) (hl : l.length ≤ 400) (hc : ∀ c ∈ l, c.f1.length ≤ 1048576) : ∀ d i k, l.length - i = d → i ≤ l.length → d + 1300000 < k → (∀ c ∈ l.take i, effOk c = true) → impl_EffectsLive.l0 k l l (l.length : Int) (i : Int) = some (if (l.drop i).all effOk = true then liveR [] l else ([], false)) := by
 intro d
 induction d with
 | zero =>
  intro i k hd hi hk ha
  obtain ⟨k, rfl⟩ : ∃ q, k = q + 1 := ⟨k - 1, by omega⟩
  obtain rfl : i = l.length := by omega
  rw [List.take_length] at ha
  simp only [impl_EffectsLive.l0]
  rw [if_neg (by omega), List.drop_length, if_pos List.all_nil]
  exact impl_live_l l hl ha l.length 0 k [] rfl (by omega) (LB_nil _) (by omega)
 | succ d ih =>
  intro i k hd hi hk ha
  obtain ⟨k, rfl⟩ : ∃ q, k = q + 1 := ⟨k - 1, by omega⟩
  have h : i < l.length := by omega
  have hc1 : l[i].f1.length ≤ 1048576 := hc _ (List.getElem_mem h)
  simp only [impl_EffectsLive.l0]
  rw [if_pos (by omega), if_pos (by omega), if_pos (by omega), rd_eff h, within_at, bsome, impl_place_at _ (by omega) k (by omega), bsome, wnext h (by omega), drop_cons h, List.all_cons]
  by_cases hr : 0 ≤ l[i].f0 ∧ l[i].f0 ≤ 2
  ·rw [decide_eq_true hr, if_pos rfl]
   by_cases hp : plOk l[i].f1 = true
   ·have ho : effOk l[i] = true := by unfold effOk; rw [hp, decide_eq_true hr]; rfl
    rw [if_pos hp, ho, Bool.true_and]
    refine ih (i + 1) k (by omega) (by omega) (by omega) fun c hc => ?_
    rw [List.take_succ_eq_append_getElem h] at hc
    rcases List.mem_append.1 hc with hc | hc
    ·exact ha c hc
    ·rw [List.mem_singleton.1 hc]; exact ho
   ·have ho : effOk l[i] = false := by unfold effOk; rw [Bool.not_eq_true] at hp; rw [hp, Bool.false_and]
    rw [if_neg hp, ho, Bool.false_and, if_neg (by decide)]
  ·have ho : effOk l[i] = false := by unfold effOk; rw [decide_eq_false hr, Bool.and_false]
   rw [decide_eq_false hr, if_neg (by decide), ho, Bool.false_and, if_neg (by decide)]
theorem impl_effR (l : List S75) (hc : ∀ c ∈ l, c.f1.length ≤ 1048576) (k : Nat) (hk : 1301000 < k) : impl_EffectsLive.f k l = some (effR l) := by
 unfold impl_EffectsLive.f effR
 by_cases h : l.length > 400
 ·rw [if_pos h, if_pos (by omega)]
 ·rw [if_neg h, if_neg (by omega)]
  have := impl_first_l l (by omega) hc l.length 0 k rfl (by omega) (by omega) (fun c hc => by simp at hc)
  rw [show ((0 : Nat) : Int) = 0 from rfl, List.drop_zero] at this
  rw [this]
  by_cases ha : l.all effOk = true
  ·rw [if_pos ha]
  ·rw [if_neg ha, liveR_bad l (by simpa using ha)]
def G94 (x : S94) : Prop := (Lit.int .i64 x.f0).wf = true ∧ ((Lit.int .i64 x.f1).wf = true)
def G72 (x : S72) : Prop := (Lit.int .i64 x.f0).wf = true ∧ ((x.f1.length ≤ maxLen ∧ ∀ ex_f1 ∈ x.f1, G94 ex_f1))
def PureFnExactEffectsLive : Prop := ∀ (l0 : List (S72)), l0.length ≤ maxLen → (∀ x ∈ l0, G72 x) → ∃ k, laws_FnExactEffectsLive.f k l0 = some true
theorem FnExactEffectsLive : PureFnExactEffectsLive := by
 intro l hl hg
 obtain ⟨K, hK⟩ : ∃ K : Nat, K = 2147483648 := ⟨_, rfl⟩
 refine ⟨K + 3, ?_⟩
 obtain ⟨r, hr, h1, h2⟩ := szEffS_at l hl (fun x hx => (hg x hx).2.1) 1048576 (by omega) (K + 3) (by omega)
 unfold laws_FnExactEffectsLive.f
 rw [hr, bsome]
 by_cases h : r < 0
 ·rw [if_pos h]
 rw [if_neg h]
 have hs : szEffs l ≤ 1048576 := by have := h2 (by omega); omega
 obtain ⟨h3, h4⟩ := effs_EB hs
 have hlen : (l.map cEff).length ≤ 1048576 := by simpa using h3
 have hm : szmes (l.map cEff) ≤ 3145728 := by
  have e1 : szmes (l.map cEff) ≤ 3 * szEffs l := by
   clear hr h h1 h2 hs h3 h4 hlen hl hg hK
   induction l with
   | nil => simp [szmes]
   | cons x l ih =>
    rw [List.map_cons, szmes_cons]
    unfold szEffs at ih ⊢
    rw [List.length_cons, List.map_cons, List.sum_cons]
    have : (cEff x).f1.length = szEff x := by show (x.f1.map cSlot).length = _; rw [List.length_map]; rfl
    omega
  omega
 have hto : ∀ q, 2097160 < q → laws_toEffectS.f q l = some (l.map cEff) := fun q hq => toEffS_at l hs q hq
 generalize l.map cEff = a at *
 have hsp : ∀ q, 1301000 < q → spec_EffectsLive.f q a = some (effR a) := fun q hq => spec_effR a h4 q (by omega)
 have him : ∀ q, 1301000 < q → impl_EffectsLive.f q a = some (effR a) := fun q hq => impl_effR a h4 q hq
 obtain ⟨hb1, hb2, _⟩ := effR_LB a
 generalize effR a = g at *
 obtain ⟨g, ok⟩ := g
 have hb1' : g.length ≤ 400 := hb1
 have hb2' : ∀ c ∈ g, c.length ≤ 20 := hb2
 have hb3 : szmp g ≤ 16000 := by have := szmp_le g 20 hb2'; omega
 have heq : ∀ q, 2097160 < q → laws_eqSlotSS.f q g g = some true := fun q hq => eqPls_refl g (by omega) (fun c hc => by have := hb2' c hc; omega) q hq
 have hma : ∀ q, 33554432 < q → laws_markEffectS.f q a 1 = some (((1 + szmes a : Nat) : Int), mkEffs a 1) := fun q hq => markEffS_at a 1 q (by omega) (by omega) (by omega)
 have hmg : ∀ q, 33554432 < q → laws_markSlotSS.f q g 1 = some (((1 + szmp g : Nat) : Int), mkPls g 1) := fun q hq => markPls_at g 1 q (by omega) (by omega) (by omega)
 have hhg : ∀ q, 33554432 < q → laws_heldSlotSS.f q (mkPls g 1) 1 = some ((1 + szmp g : Nat) : Int) := fun q hq => heldPls_at g 1 q (by omega) (by omega) (by omega)
 have j2 : laws_FnExactEffectsLive.j2 (K + 1) (mkPls g 1) ((1 + szmp g : Nat) : Int) false = some true := by
  simp only [laws_FnExactEffectsLive.j2]
  rw [if_neg (by decide), hhg K (by omega), bsome, if_neg (by omega), if_pos rfl]
 have j1 : laws_FnExactEffectsLive.j1 (K + 2) l g ok g false = some true := by
  simp only [laws_FnExactEffectsLive.j1]
  rw [if_neg (by decide), hmg (K + 1) (by omega), bsome]
  show Option.bind (laws_heldSlotSS.f (K + 1) (mkPls g 1) 1) _ = _
  rw [hhg (K + 1) (by omega), bsome, if_neg (by omega), if_pos rfl, hto (K + 1) (by omega), bsome, him (K + 1) (by omega), bsome]
  show Option.bind (laws_eqSlotSS.f (K + 1) g g) _ = _
  rw [heq (K + 1) (by omega), bsome, if_pos rfl]
  show laws_FnExactEffectsLive.j2 (K + 1) (mkPls g 1) ((1 + szmp g : Nat) : Int) (ok != ok) = _
  rw [bne_self_eq_false]; exact j2
 have j0 : laws_FnExactEffectsLive.j0 (K + 3) l g ok a g ok false = some true := by
  simp only [laws_FnExactEffectsLive.j0]
  rw [if_neg (by decide), hto (K + 2) (by omega), bsome, eqEffS_refl a (by omega) h4 (K + 2) (by omega), bsome, if_pos rfl, hma (K + 2) (by omega), bsome]
  rw [if_neg (by show ¬ (((1 + szmes a : Nat) : Int) < 0); omega), heq (K + 2) (by omega), bsome, if_pos rfl, bne_self_eq_false]; exact j1
 simp only [hto (K + 3) (by omega), hsp (K + 3) (by omega), him (K + 3) (by omega), heq (K + 3) (by omega), bsome, if_true, bne_self_eq_false]
 exact j0
end Go.Proofs.Ytpadhphdglbciaa.Pure
