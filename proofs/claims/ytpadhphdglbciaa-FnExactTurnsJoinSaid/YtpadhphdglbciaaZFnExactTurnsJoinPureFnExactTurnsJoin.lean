/- The pure statement of the law 'FnExactTurnsJoin': for every list of turns the law's function returns true, so the program's TurnsJoin is the reference's and shares no memory (no other condition). -/
import Derived.Test.YtpadhphdglbciaaZFnExactTurnsJoinQFnExactTurnsJoinx15
namespace Go.Proofs.Ytpadhphdglbciaa.Pure
open Go Go.RowKit Go.Proofs.Ytpadhphdglbciaa.PFnExactTurnsJoin Go.Proofs.YtpadhphdglbciaaW.PrintWords Go.Proofs.YtpadhphdglbciaaW.PrintLast
set_option linter.unusedVariables false
set_option linter.unusedSimpArgs false
theorem w64 {n : Int} (h1 : -9223372036854775808 ≤ n) (h2 : n ≤ 9223372036854775807) : wrap64 n = n := by
  unfold wrap64; omega
theorem wnext {i n : Nat} (h : i < n) (hn : n ≤ 4611686018427387904) : wrap64 ((i : Int) + 1) = ((i + 1 : Nat) : Int) := by
  rw [w64 (by omega) (by omega)]; omega
theorem loop_up {n : Nat} (Q : Nat → Nat → Prop) (last : ∀ k, Q (k + 1) n) (step : ∀ k i, i < n → Q k (i + 1) → Q (k + 1) i) : ∀ k i, i ≤ n → n - i < k → Q k i := by
  intro k
  induction k with
  | zero => intro i _ h; omega
  | succ k ih =>
    intro i hi hk
    by_cases h : i = n
    · subst h; exact last k
    · exact step k i (by omega) (ih (i + 1) (by omega) (by omega))
theorem drop_at {α : Type} {l : List α} {i : Nat} (d : α) (h : i < l.length) : l.drop i = l.getD ((i : Int)).toNat d :: l.drop (i + 1) := by
  rw [List.drop_eq_getElem_cons h, List.getD_eq_getElem?_getD]
  simp [h]
theorem range_at {i n : Nat} (h : i < n) : List.range' i (n - i) = i :: List.range' (i + 1) (n - (i + 1)) := by
  rw [show n - i = (n - (i + 1)) + 1 by omega, List.range'_succ]
theorem range_end (n : Nat) : List.range' n (n - n) = [] := by simp
theorem bsome {α β : Type} (a : α) (f : α → Option β) : (some a).bind f = f a := by
  cases h : f a <;> simp [h]
theorem getD_at {α : Type} {l : List α} {i : Nat} (d : α) (h : i < l.length) : l.getD ((i : Int)).toNat d = l[i] := by
  simp [List.getD_eq_getElem?_getD, h]
theorem drop_cons {α : Type} {l : List α} {i : Nat} (h : i < l.length) : l.drop i = l[i] :: l.drop (i + 1) := List.drop_eq_getElem_cons h
theorem loop_s {n m s : Nat} (hs : 0 < s) (Q : Nat → Nat → Prop) (last : ∀ k, m ≤ k → Q (k + 1) n) (step : ∀ k i, i < n → m ≤ k → Q k (i + 1) → Q (k + s) i) : ∀ d i k, n - i = d → i ≤ n → d * s + m < k → Q k i := by
  intro d
  induction d with
  | zero =>
    intro i k hd hi hk
    obtain rfl : i = n := by omega
    obtain ⟨k, rfl⟩ : ∃ q, k = q + 1 := ⟨k - 1, by omega⟩
    exact last k (by omega)
  | succ d ih =>
    intro i k hd hi hk
    rw [Nat.add_mul, Nat.one_mul] at hk; obtain ⟨k, rfl⟩ : ∃ q, k = q + s := ⟨k - s, by omega⟩
    exact step k i (by omega) (by omega) (ih (i + 1) k (by omega) (by omega) (by omega))
theorem all_loop {α : Type} (xs : List α) (F : Nat → Int → Option Bool) (p : α → Bool) (fin : Bool) (m s : Nat) (hs : 0 < s)
    (hend : ∀ k, m ≤ k → F (k + 1) (xs.length : Int) = some fin)
    (hstep : ∀ k i (h : i < xs.length), m ≤ k → F (k + s) (i : Int) = if p xs[i] = true then F k ((i + 1 : Nat) : Int) else some false) :
    ∀ k, xs.length * s + m < k → F k 0 = some (xs.all p && fin) := by
  intro k hk
  have := loop_s (n := xs.length) (m := m) (s := s) hs (fun k i => F k (i : Int) = some ((xs.drop i).all p && fin)) (fun k hm => by show F (k + 1) (xs.length : Int) = _; rw [hend k hm, List.drop_length]; rfl)
    (fun k i h hm ih => by
      show F (k + s) (i : Int) = _
      rw [hstep k i h hm, drop_cons h, List.all_cons]; have ih' : F k ((i + 1 : Nat) : Int) = some ((xs.drop (i + 1)).all p && fin) := ih; rw [ih']
      by_cases hp : p xs[i] = true <;> simp [hp]) xs.length 0 k (by omega) (by omega) hk
  simpa using this
theorem map_loop {α β : Type} (xs : List α) (F : Nat → List β → Int → Option (List β)) (c : α → β) (z : β) (m s : Nat) (hs : 0 < s)
    (hend : ∀ k acc, m ≤ k → F (k + 1) acc (xs.length : Int) = some acc)
    (hstep : ∀ k (acc : List β) i (h : i < xs.length), m ≤ k → i < acc.length → F (k + s) acc (i : Int) = F k (acc.set i (c xs[i])) ((i + 1 : Nat) : Int)) :
    ∀ k, xs.length * s + m < k → F k (List.replicate xs.length z) 0 = some (xs.map c) := by
  intro k hk
  have := loop_s (n := xs.length) (m := m) (s := s) hs (fun k i => ∀ p : List β, p.length = i → F k (p ++ List.replicate (xs.length - i) z) (i : Int) = some (p ++ (xs.drop i).map c))
    (fun k hm p hp => by rw [hend k _ hm]; simp)
    (fun k i h hm ih p hp => by
      rw [hstep k _ i h hm (by simp; omega), show xs.length - i = (xs.length - (i + 1)) + 1 by omega, List.replicate_succ]
      have e : (p ++ z :: List.replicate (xs.length - (i + 1)) z).set i (c xs[i]) = (p ++ [c xs[i]]) ++ List.replicate (xs.length - (i + 1)) z := by
        subst hp; simp
      rw [e, ih (p ++ [c xs[i]]) (by simp [hp]), drop_cons h, List.map_cons, List.append_assoc]; rfl) xs.length 0 k (by omega) (by omega) hk [] rfl
  simpa using this
theorem sz_loop {α : Type} (xs : List α) (F : Nat → Int → Int → Option Int) (sz : α → Nat) (m s : Nat) (hs : 0 < s)
    (hend : ∀ (k : Nat) (left : Int), m ≤ k → F (k + 1) left (xs.length : Int) = some left)
    (hstep : ∀ (k : Nat) (left : Int) (i : Nat) (h : i < xs.length), m ≤ k → 0 ≤ left → left ≤ 1048576 → ∃ t, t ≤ left ∧ (0 ≤ t → t = left - sz xs[i]) ∧ F (k + s) left (i : Int) = if t < 0 then some (-1) else F k t ((i + 1 : Nat) : Int)) :
    ∀ (k : Nat) (left : Int), xs.length * s + m < k → 0 ≤ left → left ≤ 1048576 → ∃ r, F k left 0 = some r ∧ r ≤ left ∧ (0 ≤ r → r = left - (xs.map sz).sum) := by
  intro k left hk h0 h1
  have := loop_s (n := xs.length) (m := m) (s := s) hs (fun k i => ∀ left : Int, 0 ≤ left → left ≤ 1048576 → ∃ r, F k left (i : Int) = some r ∧ r ≤ left ∧ (0 ≤ r → r = left - ((xs.drop i).map sz).sum))
    (fun k hm left h0 h1 => ⟨left, by rw [hend k _ hm], by omega, by simp⟩)
    (fun k i h hm ih left h0 h1 => by
      obtain ⟨t, t1, t2, t3⟩ := hstep k left i h hm h0 h1
      by_cases ht : t < 0
      · exact ⟨-1, by rw [t3, if_pos ht], by omega, by omega⟩
      · obtain ⟨r, r1, r2, r3⟩ := ih t (by omega) (by omega)
        refine ⟨r, by rw [t3, if_neg ht, r1], by omega, fun hr => ?_⟩
        rw [r3 hr, t2 (by omega), drop_cons h, List.map_cons, List.sum_cons]; omega) xs.length 0 k (by omega) (by omega) hk left h0 h1
  simpa using this
theorem sum_mem {α : Type} {xs : List α} {sz : α → Nat} {x : α} (h : x ∈ xs) : sz x ≤ (xs.map sz).sum := by
  induction xs with
  | nil => cases h
  | cons y ys ih =>
    rw [List.map_cons, List.sum_cons]
    rcases List.mem_cons.1 h with rfl | h
    · omega
    · have := ih h; omega
theorem within_at (a b c : Int) : impl_within.f a b c = some (decide (b ≤ a ∧ a ≤ c)) := by
  unfold impl_within.f
  by_cases h : a ≥ b
  · rw [if_pos h]; congr 1; exact decide_eq_decide.mpr ⟨fun x => ⟨h, x⟩, fun x => x.2⟩
  · rw [if_neg h]; congr 1; exact (decide_eq_false fun x => h x.1).symm
theorem inRange_at (a b c : Int) : spec_inRange.f a b c = some (decide (b ≤ a ∧ a ≤ c)) := by
  unfold spec_inRange.f
  by_cases h : a ≥ b
  · rw [if_pos h]; congr 1; exact decide_eq_decide.mpr ⟨fun x => ⟨h, x⟩, fun x => x.2⟩
  · rw [if_neg h]; congr 1; exact (decide_eq_false fun x => h x.1).symm
def Good (c : Int) : Prop := (97 ≤ c ∧ c ≤ 122) ∨ (48 ≤ c ∧ c ≤ 57) ∨ c = 32
instance (c : Int) : Decidable (Good c) := by unfold Good; exact inferInstance
def goodsFrom (s : ByteArray) (i : Nat) : Bool := (List.range' i (s.size - i)).all fun j => decide (Good (bt s j))
theorem goods_at {s : ByteArray} {i : Nat} (h : i < s.size) : goodsFrom s i = (decide (Good (bt s i)) && goodsFrom s (i + 1)) := by
  unfold goodsFrom; rw [range_at h]; rfl
theorem goods_end (s : ByteArray) : goodsFrom s s.size = true := by
  unfold goodsFrom; rw [range_end]; rfl
def wordOk (s : ByteArray) : Bool := goodsFrom s 0 && decide (s.size ≤ 12)
theorem impl_word_l (s : ByteArray) (hs : s.size ≤ 4611686018427387904) : ∀ k i, i ≤ s.size → s.size - i < k → impl_word.l0 k s (i : Int) = some (goodsFrom s i && decide (s.size ≤ 12)) := by
  refine loop_up (fun k i => impl_word.l0 k s (i : Int) = some (goodsFrom s i && decide (s.size ≤ 12))) ?_ ?_
  · intro k
    simp only [impl_word.l0]; rw [if_neg (by omega), goods_end, Bool.true_and]
    congr 1; exact decide_eq_decide.mpr (by omega)
  · intro k i hi ih
    have e : impl_word.l0 (k + 1) s (i : Int) = if Good (bt s i) then impl_word.l0 k s (wrap64 ((i : Int) + 1)) else some false := by
      simp only [impl_word.l0]; rw [if_pos (by omega), if_pos (by omega)]
      by_cases hg : Good (bt s i)
      · rw [if_pos hg]; unfold Good at hg
        repeat' split
        all_goals first
          | rfl
          | (exfalso; omega)
      · rw [if_neg hg]; unfold Good at hg
        repeat' split
        all_goals first
          | rfl
          | (exfalso; omega)
    rw [e, wnext hi hs, ih, goods_at hi]
    by_cases hg : Good (bt s i) <;> simp [hg]
theorem impl_word_at (s : ByteArray) (hs : s.size ≤ 4611686018427387904) (k : Nat) (hk : s.size < k) : impl_word.f k s = some (wordOk s) := by
  have := impl_word_l s hs k 0 (by omega) (by omega)
  unfold impl_word.f wordOk
  exact this
theorem plain_at (c : Int) : spec_plainByte.f c = some (decide (Good c)) := by
  unfold spec_plainByte.f
  by_cases hg : Good c
  · rw [decide_eq_true hg]; unfold Good at hg
    repeat' split
    all_goals first
      | rfl
      | (congr 1; exact beq_iff_eq.mpr (by omega))
      | (exfalso; omega)
  · rw [decide_eq_false hg]; unfold Good at hg
    repeat' split
    all_goals first
      | rfl
      | (congr 1; exact beq_eq_false_iff_ne.mpr (by omega))
      | (exfalso; omega)
theorem spec_word_l (s : ByteArray) (hs : s.size ≤ 4611686018427387904) : ∀ k i, i ≤ s.size → s.size - i < k → spec_validWord.l0 k s (i : Int) = some (goodsFrom s i) := by
  refine loop_up (fun k i => spec_validWord.l0 k s (i : Int) = some (goodsFrom s i)) ?_ ?_
  · intro k
    simp only [spec_validWord.l0]; rw [if_neg (by omega), goods_end]
  · intro k i hi ih
    simp only [spec_validWord.l0]; rw [if_pos (by omega), if_pos (by omega), plain_at, goods_at hi]; simp only [Option.bind_some, wnext hi hs, ih]
    by_cases hg : Good (bt s i) <;> simp [hg]
theorem spec_word_at (s : ByteArray) (hs : s.size ≤ 4611686018427387904) (k : Nat) (hk : s.size < k) : spec_validWord.f k s = some (wordOk s) := by
  have := spec_word_l s hs k 0 (by omega) (by omega)
  unfold spec_validWord.f wordOk
  by_cases h : (s.size : Int) > 12
  · rw [if_pos h, show decide (s.size ≤ 12) = false from decide_eq_false (by omega), Bool.and_false]
  · rw [if_neg h, show decide (s.size ≤ 12) = true from decide_eq_true (by omega), Bool.and_true]; exact this
def vOk (a b : Int) (s : ByteArray) : Bool :=
  if a = 0 then (if b = 0 then s.toList == ([] : List UInt8) else false)
  else if a = 1 then (if -1000 ≤ b ∧ b ≤ 1000 then s.toList == ([] : List UInt8) else false)
  else if a = 2 then (if b = 0 then wordOk s else false) else false
theorem impl_valOk_at (a b : Int) (s : ByteArray) (hs : s.size ≤ 4611686018427387904) (k : Nat) (hk : s.size < k) : impl_ValOk.f k a b s = some (vOk a b s) := by
  unfold impl_ValOk.f vOk
  simp only [within_at, impl_word_at s hs k hk, Option.bind_some, decide_eq_true_eq]
  repeat' split
  all_goals rfl
theorem spec_val_at (a b : Int) (s : ByteArray) (hs : s.size ≤ 4611686018427387904) (k : Nat) (hk : s.size < k) : spec_validValue.f k a b s = some (vOk a b s) := by
  unfold spec_validValue.f vOk
  simp only [inRange_at, spec_word_at s hs k hk, Option.bind_some, decide_eq_true_eq]
  repeat' split
  all_goals rfl
def slotOk (x : S92) : Bool := decide (0 ≤ x.f0 ∧ x.f0 ≤ 3) && decide (0 ≤ x.f1 ∧ x.f1 ≤ 103)
theorem rd_slot {l : List S92} {i : Nat} (h : i < l.length) : l.drop i = rd_T92 l (i : Int) :: l.drop (i + 1) := drop_at z92 h
def plOk (l : List S92) : Bool := l.all slotOk && decide (l.length ≤ 20)
theorem validSlot_at (x : S92) : spec_validSlot.f x.f0 x.f1 = some (slotOk x) := by
  unfold spec_validSlot.f slotOk
  simp only [inRange_at, Option.bind_some]
  by_cases h : 0 ≤ x.f0 ∧ x.f0 ≤ 3 <;> simp [h]
theorem spec_place_l (l : List S92) (hl : l.length ≤ 4611686018427387904) : ∀ k i, i ≤ l.length → l.length - i < k → spec_validPlace.l0 k l (i : Int) = some ((l.drop i).all slotOk) := by
  refine loop_up (fun k i => spec_validPlace.l0 k l (i : Int) = some ((l.drop i).all slotOk)) ?_ ?_
  · intro k
    simp only [spec_validPlace.l0]; rw [if_neg (by omega), List.drop_length]; rfl
  · intro k i hi ih
    simp only [spec_validPlace.l0]; rw [if_pos (by omega), if_pos (by omega), validSlot_at, rd_slot hi]; simp only [Option.bind_some, wnext hi hl, ih, List.all_cons]
    by_cases hg : slotOk (rd_T92 l (i : Int)) = true <;> simp [hg]
theorem spec_place_at (l : List S92) (hl : l.length ≤ 4611686018427387904) (k : Nat) (hk : l.length < k) : spec_validPlace.f k l = some (plOk l) := by
  have := spec_place_l l hl k 0 (by omega) (by omega)
  unfold spec_validPlace.f plOk
  by_cases h : (l.length : Int) > 20
  · rw [if_pos h, show decide (l.length ≤ 20) = false from decide_eq_false (by omega), Bool.and_false]
  · rw [if_neg h, show decide (l.length ≤ 20) = true from decide_eq_true (by omega), Bool.and_true]; exact this
theorem impl_place_l (l : List S92) (hl : l.length ≤ 4611686018427387904) : ∀ k i, i ≤ l.length → l.length - i < k → impl_PlaceOk.l0 k l l (l.length : Int) (i : Int) = some ((l.drop i).all slotOk && decide (l.length ≤ 20)) := by
  refine loop_up (fun k i => impl_PlaceOk.l0 k l l (l.length : Int) (i : Int) = some ((l.drop i).all slotOk && decide (l.length ≤ 20))) ?_ ?_
  · intro k
    simp only [impl_PlaceOk.l0]; rw [if_neg (by omega), List.drop_length]; simp only [List.all_nil, Bool.true_and]
    congr 1; exact decide_eq_decide.mpr (by omega)
  · intro k i hi ih
    simp only [impl_PlaceOk.l0]; rw [if_pos (by omega), if_pos (by omega), if_pos (by omega), rd_slot hi]; simp only [within_at, Option.bind_some, wnext hi hl, ih, List.all_cons, slotOk, decide_eq_true_eq]
    by_cases h0 : 0 ≤ (rd_T92 l (i : Int)).f0 ∧ (rd_T92 l (i : Int)).f0 ≤ 3
    · by_cases h1 : 0 ≤ (rd_T92 l (i : Int)).f1 ∧ (rd_T92 l (i : Int)).f1 ≤ 103
      · rw [if_pos h0, if_pos h1]; simp [h0, h1]
      · rw [if_pos h0, if_neg h1]; simp [h0, h1]
    · rw [if_neg h0]; simp [h0]
theorem impl_place_at (l : List S92) (hl : l.length ≤ 4611686018427387904) (k : Nat) (hk : l.length < k) : impl_PlaceOk.f k l = some (plOk l) := by
  have := impl_place_l l hl k 0 (by omega) (by omega)
  unfold impl_PlaceOk.f plOk
  exact this
def valZ (x : S137) : Bool := x.f2.f0 == 0 && (x.f2.f1 == 0 && (x.f2.f2.toList == ([] : List UInt8)))
def numOk (x : S137) (p s t : Int) : Bool :=
  if x.f0 = 1 then decide (0 ≤ x.f1 ∧ x.f1 ≤ p - 1) else if x.f0 = 2 then decide (0 ≤ x.f1 ∧ x.f1 ≤ s - 1) else if x.f0 = 3 then decide (0 ≤ x.f1 ∧ x.f1 ≤ t - 1)
  else if x.f0 = 4 then decide (0 ≤ x.f1 ∧ x.f1 ≤ 1) else if x.f0 = 5 then decide (0 ≤ x.f1 ∧ x.f1 ≤ 6) else if x.f0 = 6 then decide (x.f1 = 0) else false
def stOk (x : S137) (p s t : Int) : Bool := if x.f0 = 0 then (decide (x.f1 = 0) && vOk x.f2.f0 x.f2.f1 x.f2.f2) else (valZ x && numOk x p s t)
def takesN (x : S137) : Int := if x.f0 = 5 then 2 else if x.f0 = 6 then 3 else 0
def fits (p s t : Int) : List S137 → Int → Bool
  | [], n => n == 1
  | x :: xs, n => if stOk x p s t = true ∧ takesN x ≤ n then fits p s t xs (n - takesN x + 1) else false
def formOk (l : List S137) (p s t : Int) : Bool := fits p s t l 0 && decide (l.length ≤ 9)
theorem takesN_in (x : S137) : 0 ≤ takesN x ∧ takesN x ≤ 3 := by
  unfold takesN
  repeat' split
  all_goals omega
theorem rd_step {l : List S137} {i : Nat} (h : i < l.length) : rd_T137 l (i : Int) = l[i] := getD_at z137 h
theorem takes_at (x : S137) : spec_takes.f x.f0 x.f1 x.f2.f0 x.f2.f1 x.f2.f2 = some (takesN x) := by
  unfold spec_takes.f takesN; repeat' split
  all_goals rfl
theorem validStep_at' (x : S137) (p s t : Int) (hp : 0 ≤ p ∧ p ≤ 1000) (hq : 0 ≤ s ∧ s ≤ 1000) (ht : 0 ≤ t ∧ t ≤ 1000) (hs : x.f2.f2.size ≤ 4611686018427387904) (k : Nat) (hk : x.f2.f2.size < k) :
    spec_validStep.f k x.f0 x.f1 x.f2.f0 x.f2.f1 x.f2.f2 p s t = some (stOk x p s t) := by
  unfold spec_validStep.f stOk numOk
  rw [w64 (n := p - 1) (by omega) (by omega), w64 (n := s - 1) (by omega) (by omega), w64 (n := t - 1) (by omega) (by omega)]; simp only [inRange_at, spec_val_at _ _ _ hs k hk, bsome]; have hz : (x.f2.f0 == 0 && (x.f2.f1 == 0 && (x.f2.f2.toList == ([] : List UInt8)))) = valZ x := rfl; rw [hz]
  by_cases e0 : x.f0 = 0
  · rw [if_pos e0, if_pos e0]
    by_cases e : x.f1 = 0 <;> simp [e]
  rw [if_neg e0, if_neg e0]
  have fin : ∀ b : Bool, (if b = true then some (valZ x) else some false) = some (valZ x && b) := by intro b; cases b <;> simp
  by_cases e1 : x.f0 = 1
  · rw [if_pos e1, if_pos e1, fin]
  rw [if_neg e1, if_neg e1]
  by_cases e2 : x.f0 = 2
  · rw [if_pos e2, if_pos e2, fin]
  rw [if_neg e2, if_neg e2]
  by_cases e3 : x.f0 = 3
  · rw [if_pos e3, if_pos e3, fin]
  rw [if_neg e3, if_neg e3]
  by_cases e4 : x.f0 = 4
  · rw [if_pos e4, if_pos e4, fin]
  rw [if_neg e4, if_neg e4]
  by_cases e5 : x.f0 = 5
  · rw [if_pos e5, if_pos e5, fin]
  rw [if_neg e5, if_neg e5]
  by_cases e6 : x.f0 = 6
  · rw [if_pos e6, if_pos e6]
    by_cases e : x.f1 = 0 <;> simp [e]
  rw [if_neg e6, if_neg e6]; simp
theorem spec_form_at (l : List S137) (p s t : Int) (hp : 0 ≤ p ∧ p ≤ 1000) (hq : 0 ≤ s ∧ s ≤ 1000) (ht : 0 ≤ t ∧ t ≤ 1000) (hl : l.length ≤ 2097152) (m : Nat) (hm : ∀ x ∈ l, x.f2.f2.size < m) (hm' : m ≤ 4611686018427387904) (k : Nat) (hk : l.length + m < k) :
    spec_validForm.f k l p s t = some (formOk l p s t) := by
  have key := loop_s (n := l.length) (m := m) (s := 1) (by omega) (fun k i => ∀ n : Int, 0 ≤ n → n ≤ i → spec_validForm.l0 k l p s t n (i : Int) = some (fits p s t (l.drop i) n))
    (fun k _ n h0 h1 => by simp only [spec_validForm.l0]; rw [if_neg (by omega), List.drop_length]; rfl)
    (fun k i h hk ih n h0 h1 => by
      have hx := hm _ (List.getElem_mem h); simp only [spec_validForm.l0]; rw [if_pos (by omega), if_pos (by omega), rd_step h, drop_cons h]; generalize l[i] = x at *; simp only [validStep_at' x p s t hp hq ht (by omega) k (by omega), takes_at, bsome]; have ht := takesN_in x; rw [w64 (n := n - takesN x) (by omega) (by omega), w64 (n := n - takesN x + 1) (by omega) (by omega), wnext h (by omega)]
      unfold fits
      cases hst : stOk x p s t
      · simp
      · simp only [if_true, true_and]
        by_cases hn : n < takesN x
        · rw [if_pos hn, if_neg (by omega)]
        · rw [if_neg hn, if_pos (by omega)]; exact ih _ (by omega) (by omega)) l.length 0 k (by omega) (by omega) (by omega) 0 (by omega) (by omega)
  unfold spec_validForm.f formOk
  by_cases h : (l.length : Int) > 9
  · rw [if_pos h, show decide (l.length ≤ 9) = false from decide_eq_false (by omega), Bool.and_false]
  · rw [if_neg h, show decide (l.length ≤ 9) = true from decide_eq_true (by omega), Bool.and_true]; exact key
theorem impl_form_at (l : List S137) (p s t : Int) (hp : 0 ≤ p ∧ p ≤ 1000) (hq : 0 ≤ s ∧ s ≤ 1000) (ht : 0 ≤ t ∧ t ≤ 1000) (hl : l.length ≤ 2097152) (m : Nat) (hm : ∀ x ∈ l, x.f2.f2.size < m) (hm' : m ≤ 4611686018427387904) (k : Nat) (hk : l.length * 2 + m < k) :
    impl_formFits.f k l p s t = some (formOk l p s t) := by
  have key := loop_s (n := l.length) (m := m) (s := 2) (by omega) (fun k i => ∀ n : Int, 0 ≤ n → n ≤ i → impl_formFits.l0 k l p s t n l (l.length : Int) (i : Int) = some (fits p s t (l.drop i) n && decide (l.length ≤ 9)))
    (fun k _ n h0 h1 => by
      simp only [impl_formFits.l0]; rw [if_neg (by omega), List.drop_length]
      unfold fits
      by_cases e : n = 1
      · rw [if_pos e, e]; simp; omega
      · rw [if_neg e]; simp [e])
    (fun k i h hk ih n h0 h1 => by
      have hx := hm _ (List.getElem_mem h); simp only [impl_formFits.l0]; rw [if_pos (by omega), if_pos (by omega), if_pos (by omega), rd_step h, drop_cons h]; generalize l[i] = x at *; simp only [impl_formFits.j1, within_at, impl_valOk_at _ _ _ (show x.f2.f2.size ≤ 4611686018427387904 by omega) k (by omega), bsome, wnext h (show l.length ≤ 4611686018427387904 by omega)]; rw [w64 (n := p - 1) (by omega) (by omega), w64 (n := s - 1) (by omega) (by omega), w64 (n := t - 1) (by omega) (by omega), w64 (n := n + (1 - 0)) (by omega) (by omega), w64 (n := n + (1 - 2)) (by omega) (by omega), w64 (n := n + (1 - 3)) (by omega) (by omega)]
      have hz : (!(x.f2.f0 == 0) || (!(x.f2.f1 == 0) || (!(x.f2.f2.toList == ([] : List UInt8))))) = !valZ x := by unfold valZ; rw [Bool.not_and, Bool.not_and]
      rw [hz]
      have step : ∀ (b : Bool) (c : Int), takesN x = c → (stOk x p s t = b) → (if b = true then (if n < c then some false else impl_formFits.l0 k l p s t (n + (1 - c)) l (l.length : Int) ((i + 1 : Nat) : Int)) else some false) = some (fits p s t (x :: l.drop (i + 1)) n && decide (l.length ≤ 9)) := by
        intro b c hc hb
        subst hc; subst hb; have ht := takesN_in x
        unfold fits
        cases hst : stOk x p s t
        · simp
        · simp only [if_true, true_and]
          by_cases hn : n < takesN x
          · rw [if_pos hn, if_neg (by omega)]; simp
          · rw [if_neg hn, if_pos (by omega), show n + (1 - takesN x) = n - takesN x + 1 by omega]; exact ih _ (by omega) (by omega)
      by_cases e0 : x.f0 = 0
      · rw [if_pos e0, if_neg (by simp), if_pos e0]
        rw [← step (decide (x.f1 = 0) && vOk x.f2.f0 x.f2.f1 x.f2.f2) 0 (by unfold takesN; rw [if_neg (by omega), if_neg (by omega)]) (by unfold stOk; rw [if_pos e0])]
        by_cases e : x.f1 = 0 <;> simp [e]
      rw [if_neg e0]
      cases hv : valZ x with
      | false =>
        rw [if_pos (show (!false) = true from rfl)]
        have : stOk x p s t = false := by unfold stOk; rw [if_neg e0, hv]; rfl
        rw [← step false (takesN x) rfl this]; simp
      | true =>
        rw [if_neg (by simp), if_neg e0]
        have hst : stOk x p s t = numOk x p s t := by unfold stOk; rw [if_neg e0, hv]; rfl
        by_cases e1 : x.f0 = 1
        · rw [if_pos e1]; exact step _ 0 (by unfold takesN; rw [if_neg (by omega), if_neg (by omega)]) (by rw [hst]; unfold numOk; rw [if_pos e1])
        rw [if_neg e1]
        by_cases e2 : x.f0 = 2
        · rw [if_pos e2]; exact step _ 0 (by unfold takesN; rw [if_neg (by omega), if_neg (by omega)]) (by rw [hst]; unfold numOk; rw [if_neg e1, if_pos e2])
        rw [if_neg e2]
        by_cases e3 : x.f0 = 3
        · rw [if_pos e3]; exact step _ 0 (by unfold takesN; rw [if_neg (by omega), if_neg (by omega)]) (by rw [hst]; unfold numOk; rw [if_neg e1, if_neg e2, if_pos e3])
        rw [if_neg e3]
        by_cases e4 : x.f0 = 4
        · rw [if_pos e4]; exact step _ 0 (by unfold takesN; rw [if_neg (by omega), if_neg (by omega)]) (by rw [hst]; unfold numOk; rw [if_neg e1, if_neg e2, if_neg e3, if_pos e4])
        rw [if_neg e4]
        by_cases e5 : x.f0 = 5
        · rw [if_pos e5]; exact step _ 2 (by unfold takesN; rw [if_pos e5]) (by rw [hst]; unfold numOk; rw [if_neg e1, if_neg e2, if_neg e3, if_neg e4, if_pos e5])
        rw [if_neg e5]
        by_cases e6 : x.f0 = 6
        · rw [if_pos e6, ← step (decide (x.f1 = 0)) 3 (by unfold takesN; rw [if_neg e5, if_pos e6]) (by rw [hst]; unfold numOk; rw [if_neg e1, if_neg e2, if_neg e3, if_neg e4, if_neg e5, if_pos e6])]
          by_cases e : x.f1 = 0 <;> simp [e]
        rw [if_neg e6]
        rw [← step false (takesN x) rfl (by rw [hst]; unfold numOk; rw [if_neg e1, if_neg e2, if_neg e3, if_neg e4, if_neg e5, if_neg e6])]; simp) l.length 0 k (by omega) (by omega) (by omega) 0 (by omega) (by omega)
  unfold impl_formFits.f formOk
  exact key
def uOk (w : List S92) (st : Int) (f : List S137) (ln : Int) : Bool := plOk w && (decide (0 ≤ st ∧ st ≤ 2) && (decide (-1 ≤ ln ∧ ln ≤ 2) && formOk f 0 3 0))
theorem spec_upd_at (w : List S92) (st : Int) (f : List S137) (ln : Int) (hw : w.length ≤ 2097152) (hf : f.length ≤ 2097152) (hm : ∀ x ∈ f, x.f2.f2.size < 2097152) (k : Nat) (hk : 8388608 ≤ k) : spec_validUpdate.f k w st f ln = some (uOk w st f ln) := by
  unfold spec_validUpdate.f uOk
  simp only [inRange_at, spec_place_at w (by omega) k (by omega), spec_form_at f 0 3 0 (by omega) (by omega) (by omega) hf 2097152 hm (by omega) k (by omega), bsome, decide_eq_true_eq]
  cases plOk w <;> by_cases h1 : 0 ≤ st ∧ st ≤ 2 <;> by_cases h2 : -1 ≤ ln ∧ ln ≤ 2 <;> simp [h1, h2]
theorem impl_formOk_030 (f : List S137) (hf : f.length ≤ 2097152) (hm : ∀ x ∈ f, x.f2.f2.size < 2097152) (k : Nat) (hk : 8388608 ≤ k) : impl_FormOk.f k f 0 3 0 = some (formOk f 0 3 0) := by
  unfold impl_FormOk.f
  simp only [within_at, impl_form_at f 0 3 0 (by omega) (by omega) (by omega) hf 2097152 hm (by omega) k (by omega), bsome]
  simp
theorem impl_upd_at (w : List S92) (st : Int) (f : List S137) (ln : Int) (hw : w.length ≤ 2097152) (hf : f.length ≤ 2097152) (hm : ∀ x ∈ f, x.f2.f2.size < 2097152) (k : Nat) (hk : 8388608 ≤ k) : impl_UpdateOk.f k w st f ln = some (uOk w st f ln) := by
  unfold impl_UpdateOk.f uOk
  simp only [within_at, impl_place_at w (by omega) k (by omega), impl_formOk_030 f hf hm k hk, bsome, decide_eq_true_eq]
  cases plOk w <;> by_cases h1 : 0 ≤ st ∧ st ≤ 2 <;> by_cases h2 : -1 ≤ ln ∧ ln ≤ 2 <;> simp [h1, h2]
def updOk (u : S120) : Bool := uOk u.f0 u.f1 u.f2 u.f3
def UB (M : Nat) (u : S120) : Prop := u.f0.length ≤ M ∧ u.f2.length ≤ M ∧ ∀ x ∈ u.f2, x.f2.f2.size ≤ M
theorem rd_upd {l : List S120} {i : Nat} (h : i < l.length) : rd_T120 l (i : Int) = l[i] := getD_at z120 h
def cSlot (x : S94) : S92 := ⟨x.f0, x.f1⟩
theorem rd_lslot {l : List S94} {i : Nat} (h : i < l.length) : l.drop i = rd_T94 l (i : Int) :: l.drop (i + 1) := drop_at z94 h
theorem set_mid {α : Type} (p : List α) (a b : α) (r : List α) (n : Nat) (h : n = p.length) : (p ++ a :: r).set n b = p ++ b :: r := by subst h; simp
theorem toSlotS_l (l : List S94) (hl : l.length ≤ 4611686018427387904) (z : S92) : ∀ k i, i ≤ l.length → l.length - i < k → ∀ p, p.length = i → laws_toSlotS.l0 k l (p ++ List.replicate (l.length - i) z) (i : Int) = some (p ++ (l.drop i).map cSlot) := by
  refine loop_up (fun k i => ∀ p, p.length = i → laws_toSlotS.l0 k l (p ++ List.replicate (l.length - i) z) (i : Int) = some (p ++ (l.drop i).map cSlot)) ?_ ?_
  · intro k p hp
    simp only [laws_toSlotS.l0]; rw [if_neg (by omega)]; simp
  · intro k i hi ih p hp
    simp only [laws_toSlotS.l0, laws_toSlot.f]; rw [if_pos (by omega), if_pos (by omega)]; simp only [Option.bind_some]; rw [if_pos (by simp; omega), show l.length - i = (l.length - (i + 1)) + 1 by omega, List.replicate_succ, set_mid _ _ _ _ _ (by omega), wnext hi hl]; have := ih (p ++ [cSlot (rd_T94 l (i : Int))]) (by simp [hp]); rw [List.append_assoc] at this; rw [rd_lslot hi, List.map_cons, ← List.singleton_append, ← List.append_assoc p, List.append_assoc p]; rw [List.append_assoc] at this
    exact this
theorem toSlotS_at (l : List S94) (hl : l.length ≤ 1048576) (k : Nat) (hk : l.length < k) : laws_toSlotS.f k l = some (l.map cSlot) := by
  unfold laws_toSlotS.f
  rw [if_pos (by omega), if_pos (by omega)]; have := toSlotS_l l (by omega) z92 k 0 (by omega) (by omega) [] rfl
  simpa using this
theorem szSlotS_at (l : List S94) (n : Int) (hn : 0 ≤ n ∧ n ≤ 1048576) (hl : l.length ≤ maxLen) : ∃ r, laws_szSlotS.f l n = some r ∧ (0 ≤ r → r = n - l.length) ∧ r ≤ n := by
  have hm : l.length ≤ 9223372036854775807 := hl
  unfold laws_szSlotS.f
  rw [w64 (by omega) (by omega)]
  by_cases h : n - (l.length : Int) < 0
  · rw [if_pos h]; exact ⟨_, rfl, by omega, by omega⟩
  · rw [if_neg h]; exact ⟨_, rfl, by omega, by omega⟩
theorem eqSlot_refl (a b : Int) : laws_eqSlot.f a b a b = some true := by unfold laws_eqSlot.f; simp
theorem eqSlotS_l (l : List S92) (hl : l.length ≤ 4611686018427387904) : ∀ k i, i ≤ l.length → l.length - i < k → laws_eqSlotS.l0 k l l (i : Int) = some true := by
  refine loop_up (fun k i => laws_eqSlotS.l0 k l l (i : Int) = some true) ?_ ?_
  · intro k
    simp only [laws_eqSlotS.l0]; rw [if_neg (by omega)]
  · intro k i hi ih
    simp only [laws_eqSlotS.l0]; rw [if_pos (by omega), if_pos (by omega), if_pos (by omega), eqSlot_refl]; simp only [Option.bind_some, wnext hi hl, ih, if_true]
theorem eqSlotS_refl (l : List S92) (hl : l.length ≤ 4611686018427387904) (k : Nat) (hk : l.length < k) : laws_eqSlotS.f k l l = some true := by
  unfold laws_eqSlotS.f
  rw [if_pos rfl]; exact eqSlotS_l l hl k 0 (by omega) (by omega)
def cValue (x : S105) : S99 := ⟨x.f0, x.f1, x.f2⟩
def cStep (x : S147) : S137 := ⟨x.f0, x.f1, cValue x.f2⟩
theorem rd_lstep {l : List S147} {i : Nat} (h : i < l.length) : rd_T147 l (i : Int) = l[i] := getD_at z147 h
theorem toStepS_at (l : List S147) (hl : l.length ≤ 1048576) (k : Nat) (hk : l.length < k) : laws_toStepS.f k l = some (l.map cStep) := by
  unfold laws_toStepS.f
  rw [if_pos (by omega), if_pos (by omega)]
  exact map_loop l (fun k acc i => laws_toStepS.l0 k l acc i) cStep z137 0 1 (by omega)
    (fun k acc _ => by simp only [laws_toStepS.l0]; rw [if_neg (by omega)])
    (fun k acc i h _ ha => by
      simp only [laws_toStepS.l0]; rw [if_pos (by omega), if_pos (by omega), rd_lstep h]; simp only [laws_toStep.f, laws_toValue.f, bsome]
      rw [if_pos (by omega), wnext h (by omega)]; rfl) k (by omega)
def szStep (x : S147) : Nat := x.f2.f2.size
def szSteps (l : List S147) : Nat := l.length + (l.map szStep).sum
theorem szval_at (a b : Int) (s : ByteArray) (n : Int) (hn : 0 ≤ n ∧ n ≤ 1048576) (hs : s.size ≤ maxLen) : ∃ r, laws_szValue.f a b s n = some r ∧ (0 ≤ r → r = n - s.size) ∧ r ≤ n := by
  have hm : s.size ≤ 9223372036854775807 := hs
  unfold laws_szValue.f
  rw [w64 (by omega) (by omega)]
  by_cases h : n - (s.size : Int) < 0
  · rw [if_pos h]; exact ⟨_, rfl, by omega, by omega⟩
  · rw [if_neg h]; exact ⟨_, rfl, by omega, by omega⟩
theorem szStepS_at (l : List S147) (hl : l.length ≤ maxLen) (hg : ∀ x ∈ l, x.f2.f2.size ≤ maxLen) (n : Int) (hn : 0 ≤ n ∧ n ≤ 1048576) (k : Nat) (hk : 1048578 < k) : ∃ r, laws_szStepS.f k l n = some r ∧ r ≤ n ∧ (0 ≤ r → r = n - szSteps l) := by
  have hm : l.length ≤ 9223372036854775807 := hl
  unfold laws_szStepS.f
  rw [w64 (by omega) (by omega)]
  by_cases h : n - (l.length : Int) < 0
  · rw [if_pos h]; exact ⟨_, rfl, by omega, by omega⟩
  · rw [if_neg h]
    obtain ⟨r, h1, h2, h3⟩ := sz_loop l (fun k left i => laws_szStepS.l0 k l left i) szStep 0 1 (by omega)
      (fun k left _ => by simp only [laws_szStepS.l0]; rw [if_neg (by omega)])
      (fun k left i h _ h0 h1 => by
        obtain ⟨t, t1, t2, t3⟩ := szval_at l[i].f2.f0 l[i].f2.f1 l[i].f2.f2 left ⟨h0, h1⟩ (hg _ (List.getElem_mem h)); simp only [laws_szStepS.l0]; rw [if_pos (by omega), if_pos (by omega), rd_lstep h]
        unfold laws_szStep.f
        rw [t1, bsome]
        by_cases ht : t < 0
        · exact ⟨-1, by omega, by omega, by rw [if_pos ht, bsome, if_pos (by omega), if_pos (by omega)]⟩
        · exact ⟨t, t3, t2, by rw [if_neg ht, bsome, if_neg ht, if_neg ht, wnext h (by omega)]⟩) k (n - (l.length : Int)) (by omega) (by omega) (by omega)
    refine ⟨r, h1, by omega, fun hr => ?_⟩
    have := h3 hr
    unfold szSteps
    omega
theorem szSteps_in {l : List S147} {n : Nat} (h : szSteps l ≤ n) : l.length ≤ n ∧ ∀ x ∈ l.map cStep, x.f2.f2.size < n + 1 := by
  unfold szSteps at h
  refine ⟨by omega, fun x hx => ?_⟩
  obtain ⟨y, hy, rfl⟩ := List.mem_map.1 hx; have h1 : szStep y ≤ (l.map szStep).sum := sum_mem (sz := szStep) hy; have h2 : szStep y = y.f2.f2.size := rfl
  show y.f2.f2.size < n + 1
  omega
theorem eqValue_refl (a b : Int) (s : ByteArray) : laws_eqValue.f a b s a b s = some true := by unfold laws_eqValue.f; simp
theorem eqStepS_refl (l : List S137) (hl : l.length ≤ 4611686018427387904) (k : Nat) (hk : l.length < k) : laws_eqStepS.f k l l = some true := by
  unfold laws_eqStepS.f
  rw [if_pos rfl]; have := all_loop l (fun k i => laws_eqStepS.l0 k l l i) (fun _ => true) true 0 1 (by omega)
    (fun k _ => by simp only [laws_eqStepS.l0]; rw [if_neg (by omega)])
    (fun k i h _ => by
      simp only [laws_eqStepS.l0]; rw [if_pos (by omega), if_pos (by omega), if_pos (by omega), rd_step h]
      unfold laws_eqStep.f
      simp only [eqValue_refl, bsome, if_true, wnext h hl]) k (by omega)
  rw [this]; congr 1; simp [List.all_eq_true]
theorem szUpd_at (w : List S94) (st : Int) (f : List S147) (ln : Int) (hw : w.length ≤ maxLen) (hf : f.length ≤ maxLen) (hg : ∀ x ∈ f, x.f2.f2.size ≤ maxLen) (n : Int) (hn : 0 ≤ n ∧ n ≤ 1048576) (k : Nat) (hk : 1048578 < k) : ∃ r, laws_szUpdate.f k w st f ln n = some r ∧ r ≤ n ∧ (0 ≤ r → r = n - (w.length + szSteps f : Nat)) := by
  obtain ⟨r, hr, h1, h2⟩ := szSlotS_at w n hn hw
  unfold laws_szUpdate.f
  rw [hr, bsome]
  by_cases h : r < 0
  · rw [if_pos h]; exact ⟨_, rfl, by omega, by omega⟩
  rw [if_neg h]; obtain ⟨q, hq, h3, h4⟩ := szStepS_at f hf hg r (by omega) k (by omega); rw [hq, bsome]
  by_cases h' : q < 0
  · rw [if_pos h']; exact ⟨_, rfl, by omega, by omega⟩
  rw [if_neg h']; exact ⟨_, rfl, by omega, fun _ => by rw [h4 (by omega), h1 (by omega)]; omega⟩
theorem toUpd_at (w : List S94) (st : Int) (f : List S147) (ln : Int) (hw : w.length ≤ 1048576) (hf : f.length ≤ 1048576) (k : Nat) (hk : 1048577 < k) : laws_toUpdate.f k w st f ln = some (w.map cSlot, st, f.map cStep, ln) := by
  unfold laws_toUpdate.f
  rw [toSlotS_at w hw k (by omega), bsome, toStepS_at f hf k (by omega), bsome]
def cUpd (x : S113) : S120 := ⟨x.f0.map cSlot, x.f1, x.f2.map cStep, x.f3⟩
def szUpd (x : S113) : Nat := x.f0.length + szSteps x.f2
theorem eqUpd_refl (w : List S92) (st : Int) (f : List S137) (ln : Int) (hw : w.length ≤ 2097152) (hf : f.length ≤ 2097152) (k : Nat) (hk : 2097153 < k) : laws_eqUpdate.f k w st f ln w st f ln = some true := by
  unfold laws_eqUpdate.f
  simp only [eqSlotS_refl w (by omega) k (by omega), eqStepS_refl f (by omega) k (by omega), bsome, if_true]
def cTurn (x : S115) : S122 := ⟨x.f0, x.f1, cUpd x.f2⟩
theorem rd_lturn {l : List S115} {i : Nat} (h : i < l.length) : rd_T115 l (i : Int) = l[i] := getD_at z115 h
theorem rd_turn {l : List S122} {i : Nat} (h : i < l.length) : rd_T122 l (i : Int) = l[i] := getD_at z122 h
def szTurn (x : S115) : Nat := szUpd x.f2
def szTurns (l : List S115) : Nat := l.length + (l.map szTurn).sum
theorem toTurnS_at (l : List S115) (hl : szTurns l ≤ 1048576) (k : Nat) (hk : 2097160 < k) : laws_toTurnS.f k l = some (l.map cTurn) := by
  have hlen : l.length ≤ 1048576 := by unfold szTurns at hl; omega
  unfold laws_toTurnS.f
  rw [if_pos (by omega), if_pos (by omega)]
  exact map_loop l (fun k acc i => laws_toTurnS.l0 k l acc i) cTurn z122 1048578 1 (by omega)
    (fun k acc _ => by simp only [laws_toTurnS.l0]; rw [if_neg (by omega)])
    (fun k acc i h hk ha => by
      have hs : szTurn l[i] ≤ 1048576 := by
        have := sum_mem (sz := szTurn) (List.getElem_mem h)
        unfold szTurns at hl; omega
      have hs' : l[i].f2.f0.length + (l[i].f2.f2.length + (l[i].f2.f2.map szStep).sum) ≤ 1048576 := hs; simp only [laws_toTurnS.l0]; rw [if_pos (by omega), if_pos (by omega), rd_lturn h]
      unfold laws_toTurn.f
      rw [toUpd_at _ _ _ _ (by omega) (by omega) k (by omega), bsome, bsome]
      rw [if_pos (by omega), wnext h (by omega)]; rfl) k (by omega)
theorem szTurnS_at (l : List S115) (hl : l.length ≤ maxLen) (hg : ∀ x ∈ l, x.f2.f0.length ≤ maxLen ∧ x.f2.f2.length ≤ maxLen ∧ ∀ v ∈ x.f2.f2, v.f2.f2.size ≤ maxLen) (n : Int) (hn : 0 ≤ n ∧ n ≤ 1048576) (k : Nat) (hk : 2097160 < k) : ∃ r, laws_szTurnS.f k l n = some r ∧ r ≤ n ∧ (0 ≤ r → r = n - szTurns l) := by
  have hm : l.length ≤ 9223372036854775807 := hl
  unfold laws_szTurnS.f
  rw [w64 (by omega) (by omega)]
  by_cases h : n - (l.length : Int) < 0
  · rw [if_pos h]; exact ⟨_, rfl, by omega, by omega⟩
  · rw [if_neg h]
    obtain ⟨r, h1, h2, h3⟩ := sz_loop l (fun k left i => laws_szTurnS.l0 k l left i) szTurn 1048579 1 (by omega)
      (fun k left _ => by simp only [laws_szTurnS.l0]; rw [if_neg (by omega)])
      (fun k left i h hk h0 h1 => by
        obtain ⟨g0, g1, g2⟩ := hg _ (List.getElem_mem h); obtain ⟨t, t1, t2, t3⟩ := szUpd_at l[i].f2.f0 l[i].f2.f1 l[i].f2.f2 l[i].f2.f3 g0 g1 g2 left ⟨h0, h1⟩ k (by omega); simp only [laws_szTurnS.l0]; rw [if_pos (by omega), if_pos (by omega), rd_lturn h]
        unfold laws_szTurn.f
        rw [t1, bsome]
        by_cases ht : t < 0
        · exact ⟨-1, by omega, by omega, by rw [if_pos ht, bsome, if_pos (by omega), if_pos (by omega)]⟩
        · exact ⟨t, t2, t3, by rw [if_neg ht, bsome, if_neg ht, if_neg ht, wnext h (by omega)]⟩) k (n - (l.length : Int)) (by omega) (by omega) (by omega)
    refine ⟨r, h1, by omega, fun hr => ?_⟩
    have := h3 hr
    unfold szTurns
    omega
theorem turns_UB {l : List S115} {n : Nat} (h : szTurns l ≤ n) : l.length ≤ n ∧ ∀ c ∈ l.map cTurn, UB n c.f2 := by
  unfold szTurns at h
  refine ⟨by omega, fun c hc => ?_⟩
  obtain ⟨y, hy, rfl⟩ := List.mem_map.1 hc; have h1 : szTurn y ≤ (l.map szTurn).sum := sum_mem (sz := szTurn) hy; have h2 : szTurn y = y.f2.f0.length + szSteps y.f2.f2 := rfl; obtain ⟨h3, h4⟩ := szSteps_in (l := y.f2.f2) (n := n) (by omega)
  refine ⟨by show (y.f2.f0.map cSlot).length ≤ n; rw [List.length_map]; omega, by show (y.f2.f2.map cStep).length ≤ n; rw [List.length_map]; omega, fun v hv => ?_⟩
  have := h4 v hv; omega
theorem eqTurnS_refl (l : List S122) (hl : l.length ≤ 1073741824) (hc : ∀ c ∈ l, UB 2097151 c.f2) (k : Nat) (hk : l.length + 2097154 < k) : laws_eqTurnS.f k l l = some true := by
  unfold laws_eqTurnS.f
  rw [if_pos rfl]; have := all_loop l (fun k i => laws_eqTurnS.l0 k l l i) (fun _ => true) true 2097154 1 (by omega)
    (fun k _ => by simp only [laws_eqTurnS.l0]; rw [if_neg (by omega)])
    (fun k i h hk => by
      obtain ⟨c0, c1, c2⟩ := hc _ (List.getElem_mem h); simp only [laws_eqTurnS.l0]; rw [if_pos (by omega), if_pos (by omega), if_pos (by omega), rd_turn h]
      unfold laws_eqTurn.f
      rw [if_pos rfl, if_pos rfl]
      simp only [eqUpd_refl l[i].f2.f0 l[i].f2.f1 l[i].f2.f2 l[i].f2.f3 (by omega) (by omega) k (by omega), bsome, if_true, wnext h (show l.length ≤ 4611686018427387904 by omega)]) k (by omega)
  rw [this]; congr 1; simp [List.all_eq_true]
def bare (u : S120) : Bool := u.f0.isEmpty && (u.f1 == 0 && (u.f2.isEmpty && u.f3 == 0))
def turnOk (x : S122) : Bool := if x.f0 = 0 then (x.f1 == 0 && updOk x.f2) else if x.f0 = 1 then (decide (0 ≤ x.f1 ∧ x.f1 ≤ 300) && bare x.f2) else if x.f0 = 2 then (x.f1 == 0 && bare x.f2) else false
theorem spec_turn_at (x : S122) (h : UB 2097151 x.f2) (k : Nat) (hk : 8388608 ≤ k) : spec_validTurn.f k x.f0 x.f1 x.f2.f0 x.f2.f1 x.f2.f2 x.f2.f3 = some (turnOk x) := by
  obtain ⟨c0, c1, c2⟩ := h
  unfold spec_validTurn.f turnOk
  simp only [inRange_at, spec_upd_at x.f2.f0 x.f2.f1 x.f2.f2 x.f2.f3 (by omega) (by omega) (fun y hy => by have := c2 y hy; omega) k hk, bsome, decide_eq_true_eq]
  unfold bare updOk
  generalize uOk x.f2.f0 x.f2.f1 x.f2.f2 x.f2.f3 = b
  cases x.f2.f0 <;> cases x.f2.f2 <;> by_cases e0 : x.f0 = 0 <;> by_cases e1 : x.f0 = 1 <;> by_cases e2 : x.f0 = 2 <;> by_cases e3 : x.f1 = 0 <;> by_cases e4 : x.f2.f1 = 0 <;> by_cases e5 : 0 ≤ x.f1 ∧ x.f1 ≤ 300 <;> first | omega | (simp [e0, e1, e2, e3, e4, e5]; done) | (simp [e0, e1, e2, e3, e4, e5]; omega) | (simp [e0, e1, e2, e3, e4, e5]; intro h; omega)
theorem impl_turn_at (x : S122) (h : UB 2097151 x.f2) (k : Nat) (hk : 8388608 < k) : impl_turnOk.f k x.f0 x.f1 x.f2.f0 x.f2.f1 x.f2.f2 x.f2.f3 = some (turnOk x) := by
  obtain ⟨c0, c1, c2⟩ := h
  have key : ∀ b : Bool, impl_turnOk.j0 k b x.f0 x.f1 x.f2.f0 x.f2.f1 x.f2.f2 x.f2.f3 x.f2.f0 x.f2.f1 x.f2.f2 x.f2.f3 = some (if x.f0 = 0 then (x.f1 == 0 && updOk x.f2) else if x.f0 = 1 then (decide (0 ≤ x.f1 ∧ x.f1 ≤ 300) && b) else if x.f0 = 2 then (x.f1 == 0 && b) else false) := by
    intro b
    obtain ⟨k, rfl⟩ : ∃ q, k = q + 1 := ⟨k - 1, by omega⟩; simp only [impl_turnOk.j0, within_at, impl_upd_at x.f2.f0 x.f2.f1 x.f2.f2 x.f2.f3 (by omega) (by omega) (fun y hy => by have := c2 y hy; omega) k (by omega), bsome, decide_eq_true_eq]
    unfold updOk
    generalize uOk x.f2.f0 x.f2.f1 x.f2.f2 x.f2.f3 = u
    by_cases e0 : x.f0 = 0 <;> by_cases e1 : x.f0 = 1 <;> by_cases e2 : x.f0 = 2 <;> by_cases e3 : x.f1 = 0 <;> by_cases e5 : 0 ≤ x.f1 ∧ x.f1 ≤ 300 <;> first | omega | simp [e0, e1, e2, e3, e5]
  unfold impl_turnOk.f
  simp only [key]
  unfold turnOk bare
  generalize updOk x.f2 = u; generalize decide (0 ≤ x.f1 ∧ x.f1 ≤ 300) = d
  cases x.f2.f0 <;> cases x.f2.f2 <;> by_cases e4 : x.f2.f1 = 0 <;> simp [e4]
  all_goals first | done | (intro h; omega) | (rw [if_neg (by omega)]) | (by_cases e5 : x.f0 = 0 <;> by_cases e6 : x.f0 = 1 <;> simp [e5, e6, show (x.f2.f1 == 0) = false from by simpa using e4])
theorem spec_turns_at (l : List S122) (hl : l.length ≤ 1048576) (hc : ∀ u ∈ l, UB 2097151 u.f2) (k : Nat) (hk : 16777216 < k) : spec_validTurns.f k l = some (decide (l.length ≤ 60) && l.all turnOk) := by
  unfold spec_validTurns.f
  by_cases h : (l.length : Int) > 60
  · rw [if_pos h, show decide (l.length ≤ 60) = false from decide_eq_false (by omega), Bool.false_and]
  rw [if_neg h, show decide (l.length ≤ 60) = true from decide_eq_true (by omega), Bool.true_and]; have := all_loop l (fun k i => spec_validTurns.l0 k l i) turnOk true 8388609 1 (by omega)
    (fun k _ => by simp only [spec_validTurns.l0]; rw [if_neg (by omega)])
    (fun k i h hk => by
      simp only [spec_validTurns.l0]
      rw [if_pos (by omega), if_pos (by omega), rd_turn h, spec_turn_at _ (hc _ (List.getElem_mem h)) k (by omega), bsome, wnext h (by omega)]) k (by omega)
  rw [Bool.and_true] at this; exact this
theorem impl_turns_at (l : List S122) (hl : l.length ≤ 1048576) (hc : ∀ u ∈ l, UB 2097151 u.f2) (k : Nat) (hk : 16777216 < k) : impl_TurnsOk.f k l = some (decide (l.length ≤ 60) && l.all turnOk) := by
  unfold impl_TurnsOk.f
  have := all_loop l (fun k i => impl_TurnsOk.l0 k l l (l.length : Int) i) turnOk (decide (l.length ≤ 60)) 8388609 1 (by omega)
    (fun k _ => by simp only [impl_TurnsOk.l0]; rw [if_neg (by omega)]; congr 1; exact decide_eq_decide.mpr (by omega))
    (fun k i h hk => by
      simp only [impl_TurnsOk.l0]
      rw [if_pos (by omega), if_pos (by omega), if_pos (by omega), rd_turn h, impl_turn_at _ (hc _ (List.getElem_mem h)) k (by omega), bsome, wnext h (by omega)]) k (by omega)
  rw [this, Bool.and_comm]
def mkSlots : List S92 → Nat → List S92
  | [], _ => []
  | _ :: xs, a => ⟨(a : Int), ((a + 1 : Nat) : Int)⟩ :: mkSlots xs (a + 2)
theorem mkSlots_length (l : List S92) : ∀ a, (mkSlots l a).length = l.length := by
  induction l with
  | nil => intro a; rfl
  | cons x l ih => intro a; simp only [mkSlots, List.length_cons, ih]
theorem rdm_slot (p : List S92) (x : S92) (r : List S92) : rd_T92 (p ++ x :: r) (p.length : Int) = x := by
  unfold rd_T92
  simp [List.getD_eq_getElem?_getD]
theorem setm {α : Type} (p : List α) (a b : α) (r : List α) : (p ++ a :: r).set ((p.length : Int)).toNat b = p ++ b :: r := set_mid p a b r _ (Int.toNat_natCast _)
theorem snoc_cons {α : Type} (p : List α) (a : α) (r : List α) : p ++ a :: r = (p ++ [a]) ++ r := by simp
theorem markSlotS_l : ∀ (l p : List S92) (a k : Nat), p.length + l.length ≤ 1099511627776 → a + 2 * l.length ≤ 1099511627776 → l.length < k → laws_markSlotS.l0 k (p ++ l) (a : Int) (p.length : Int) = some (((a + 2 * l.length : Nat) : Int), p ++ mkSlots l a) := by
  intro l
  induction l with
  | nil =>
    intro p a k hp ha hk
    obtain ⟨k, rfl⟩ : ∃ q, k = q + 1 := ⟨k - 1, by omega⟩; simp only [laws_markSlotS.l0]; rw [if_neg (by simp)]; simp [mkSlots]
  | cons x l ih =>
    intro p a k hp ha hk
    simp only [List.length_cons] at hp ha hk; obtain ⟨k, rfl⟩ : ∃ q, k = q + 1 := ⟨k - 1, by omega⟩; simp only [laws_markSlotS.l0]
    have a1 : wrap64 ((a : Int) + 1) = ((a + 1 : Nat) : Int) := by rw [w64 (by omega) (by omega)]; omega
    have a2 : wrap64 (((a + 1 : Nat) : Int) + 1) = ((a + 2 : Nat) : Int) := by rw [w64 (by omega) (by omega)]; omega
    rw [if_pos (by rw [List.length_append, List.length_cons]; omega), if_pos (by omega), bsome]; simp only [setm, rdm_slot]; rw [a1, a2, wnext (i := p.length) (n := p.length + l.length + 1) (by omega) (by omega)]; have := ih (p ++ [⟨(a : Int), ((a + 1 : Nat) : Int)⟩]) (a + 2) k (by rw [List.length_append]; simp only [List.length_cons, List.length_nil]; omega) (by omega) (by omega); rw [List.length_append, ← snoc_cons, ← snoc_cons] at this; rw [show ((p.length + 1 : Nat) : Int) = ((p.length + [(⟨(a : Int), ((a + 1 : Nat) : Int)⟩ : S92)].length : Nat) : Int) from rfl, this]; simp only [mkSlots, List.length_cons]; rw [show a + 2 + 2 * l.length = a + 2 * (l.length + 1) by omega]
theorem markSlotS_at (l : List S92) (a k : Nat) (h : l.length ≤ 1099511627776) (ha : a + 2 * l.length ≤ 1099511627776) (hk : l.length < k) : laws_markSlotS.f k l (a : Int) = some (((a + 2 * l.length : Nat) : Int), mkSlots l a) := by
  have := markSlotS_l l [] a k (by simpa using h) ha hk
  simpa [laws_markSlotS.f] using this
theorem heldSlotS_l : ∀ (l p : List S92) (a k : Nat), p.length + l.length ≤ 1099511627776 → a + 2 * l.length ≤ 1099511627776 → l.length < k → laws_heldSlotS.l0 k (p ++ mkSlots l a) (a : Int) (p.length : Int) = some ((a + 2 * l.length : Nat) : Int) := by
  intro l
  induction l with
  | nil =>
    intro p a k hp ha hk
    obtain ⟨k, rfl⟩ : ∃ q, k = q + 1 := ⟨k - 1, by omega⟩; rw [show mkSlots [] a = [] from rfl]; simp only [laws_heldSlotS.l0]; rw [if_neg (by simp)]; simp
  | cons x l ih =>
    intro p a k hp ha hk
    simp only [List.length_cons] at hp ha hk; obtain ⟨k, rfl⟩ : ∃ q, k = q + 1 := ⟨k - 1, by omega⟩; rw [show mkSlots (x :: l) a = ⟨(a : Int), ((a + 1 : Nat) : Int)⟩ :: mkSlots l (a + 2) from rfl]; simp only [laws_heldSlotS.l0]
    have a1 : wrap64 ((a : Int) + 1) = ((a + 1 : Nat) : Int) := by rw [w64 (by omega) (by omega)]; omega
    have a2 : wrap64 (((a + 1 : Nat) : Int) + 1) = ((a + 2 : Nat) : Int) := by rw [w64 (by omega) (by omega)]; omega
    rw [if_pos (by rw [List.length_append, List.length_cons]; omega), if_pos (by omega)]; simp only [rdm_slot]; rw [a1, a2]; simp only [if_true]; rw [wnext (i := p.length) (n := p.length + l.length + 1) (by omega) (by omega)]; have := ih (p ++ [⟨(a : Int), ((a + 1 : Nat) : Int)⟩]) (a + 2) k (by rw [List.length_append]; simp only [List.length_cons, List.length_nil]; omega) (by omega) (by omega); rw [List.length_append, ← snoc_cons] at this; rw [show ((p.length + 1 : Nat) : Int) = ((p.length + [(⟨(a : Int), ((a + 1 : Nat) : Int)⟩ : S92)].length : Nat) : Int) from rfl, this]; simp only [List.length_cons]; rw [show a + 2 + 2 * l.length = a + 2 * (l.length + 1) by omega]
theorem heldSlotS_at (l : List S92) (a k : Nat) (h : l.length ≤ 1099511627776) (ha : a + 2 * l.length ≤ 1099511627776) (hk : l.length < k) : laws_heldSlotS.f k (mkSlots l a) (a : Int) = some ((a + 2 * l.length : Nat) : Int) := by
  have := heldSlotS_l l [] a k (by simpa using h) ha hk
  simpa [laws_heldSlotS.f] using this
theorem markText_l : ∀ (n k : Nat) (acc : ByteArray), n < k → acc.size + n ≤ 4611686018427387904 → ∃ s, laws_markText.l0 k (n : Int) acc = some s := by
  intro n
  induction n using Nat.strongRecOn with
  | ind n ih =>
    intro k acc hk ha
    obtain ⟨k, rfl⟩ : ∃ q, k = q + 1 := ⟨k - 1, by omega⟩; simp only [laws_markText.l0]
    by_cases h : n = 0
    · rw [if_neg (by omega), if_pos (by omega)]; exact ⟨_, rfl⟩
    · have e1 : Int.tdiv (n : Int) 10 = ((n / 10 : Nat) : Int) := rfl
      rw [if_pos (by omega), bsome, e1, w64 (n := ((n / 10 : Nat) : Int)) (by omega) (by omega)]
      have hs : ∀ v : Int, (strOfNums [v]).size = 1 := fun v => rfl
      rw [hs, if_pos (by omega)]
      refine ih (n / 10) (by omega) k _ (by omega) ?_
      rw [ByteArray.size_append, hs]; omega
theorem markText_at (n : Nat) (h : n ≤ 1099511627776) (k : Nat) (hk : n < k) : ∃ s, laws_markText.f k (n : Int) = some s := by
  unfold laws_markText.f
  by_cases h0 : (n : Int) ≤ 0
  · rw [if_pos h0]; exact ⟨_, rfl⟩
  · rw [if_neg h0]
    exact markText_l n k _ hk (by show 0 + n ≤ 4611686018427387904; omega)
def mText (n : Nat) : ByteArray := (laws_markText.f (n + 1) (n : Int)).getD ByteArray.empty
theorem markText_eq (n : Nat) (h : n ≤ 1099511627776) (k : Nat) (hk : n < k) : laws_markText.f k (n : Int) = some (mText n) := by
  have h1 : ∀ d, laws_markText.f (n + 1 + d) (n : Int) = some (mText n) := by
    intro d
    induction d with
    | zero =>
      obtain ⟨s, e⟩ := markText_at n h (n + 1) (by omega)
      unfold mText; rw [Nat.add_zero, e]; rfl
    | succ d ih => exact laws_markText.mono _ _ _ ih
  have := h1 (k - (n + 1))
  rwa [show n + 1 + (k - (n + 1)) = k by omega] at this
def mkSteps : List S137 → Nat → List S137
  | [], _ => []
  | _ :: xs, a => ⟨(a : Int), ((a + 1 : Nat) : Int), (⟨((a + 2 : Nat) : Int), ((a + 3 : Nat) : Int), mText (a + 4)⟩ : S99)⟩ :: mkSteps xs (a + 5)
theorem rdm_step (p : List S137) (x : S137) (r : List S137) : rd_T137 (p ++ x :: r) (p.length : Int) = x := by
  unfold rd_T137
  simp [List.getD_eq_getElem?_getD]
theorem markStepS_l : ∀ (l p : List S137) (a k : Nat), p.length + l.length ≤ 1099511627776 → a + 5 * l.length ≤ 1099511627776 → a + 6 * l.length < k → laws_markStepS.l0 k (p ++ l) (a : Int) (p.length : Int) = some (((a + 5 * l.length : Nat) : Int), p ++ mkSteps l a) := by
  intro l
  induction l with
  | nil =>
    intro p a k hp ha hk
    obtain ⟨k, rfl⟩ : ∃ q, k = q + 1 := ⟨k - 1, by omega⟩; simp only [laws_markStepS.l0]; rw [if_neg (by simp)]; simp [mkSteps]
  | cons x l ih =>
    intro p a k hp ha hk
    simp only [List.length_cons] at hp ha hk; obtain ⟨k, rfl⟩ : ∃ q, k = q + 1 := ⟨k - 1, by omega⟩; simp only [laws_markStepS.l0]
    have a1 : wrap64 ((a : Int) + 1) = ((a + 1 : Nat) : Int) := by rw [w64 (by omega) (by omega)]; omega
    have a2 : wrap64 (((a + 1 : Nat) : Int) + 1) = ((a + 2 : Nat) : Int) := by rw [w64 (by omega) (by omega)]; omega
    have a3 : wrap64 (((a + 2 : Nat) : Int) + 1) = ((a + 3 : Nat) : Int) := by rw [w64 (by omega) (by omega)]; omega
    have a4 : wrap64 (((a + 3 : Nat) : Int) + 1) = ((a + 4 : Nat) : Int) := by rw [w64 (by omega) (by omega)]; omega
    have a5 : wrap64 (((a + 4 : Nat) : Int) + 1) = ((a + 5 : Nat) : Int) := by rw [w64 (by omega) (by omega)]; omega
    rw [if_pos (by rw [List.length_append, List.length_cons]; omega), if_pos (by omega), bsome, bsome, bsome, bsome]; simp only [setm, rdm_step]; rw [a1, a2, a3, a4, a5, markText_eq (a + 4) (by omega) k (by omega), bsome]; (try simp only [setm, rdm_step]); rw [wnext (i := p.length) (n := p.length + l.length + 1) (by omega) (by omega)]; have := ih (p ++ [⟨(a : Int), ((a + 1 : Nat) : Int), (⟨((a + 2 : Nat) : Int), ((a + 3 : Nat) : Int), mText (a + 4)⟩ : S99)⟩]) (a + 5) k (by rw [List.length_append]; simp only [List.length_cons, List.length_nil]; omega) (by omega) (by omega); rw [List.length_append, ← snoc_cons, ← snoc_cons] at this; rw [show ((p.length + 1 : Nat) : Int) = ((p.length + [(⟨(a : Int), ((a + 1 : Nat) : Int), (⟨((a + 2 : Nat) : Int), ((a + 3 : Nat) : Int), mText (a + 4)⟩ : S99)⟩ : S137)].length : Nat) : Int) from rfl, this]; simp only [mkSteps, List.length_cons]; rw [show a + 5 + 5 * l.length = a + 5 * (l.length + 1) by omega]
theorem markStepS_at (l : List S137) (a k : Nat) (h : l.length ≤ 1099511627776) (ha : a + 5 * l.length ≤ 1099511627776) (hk : a + 6 * l.length < k) : laws_markStepS.f k l (a : Int) = some (((a + 5 * l.length : Nat) : Int), mkSteps l a) := by
  have := markStepS_l l [] a k (by simpa using h) ha hk
  simpa [laws_markStepS.f] using this
theorem heldStepS_l : ∀ (l p : List S137) (a k : Nat), p.length + l.length ≤ 1099511627776 → a + 5 * l.length ≤ 1099511627776 → a + 6 * l.length < k → laws_heldStepS.l0 k (p ++ mkSteps l a) (a : Int) (p.length : Int) = some ((a + 5 * l.length : Nat) : Int) := by
  intro l
  induction l with
  | nil =>
    intro p a k hp ha hk
    obtain ⟨k, rfl⟩ : ∃ q, k = q + 1 := ⟨k - 1, by omega⟩; rw [show mkSteps [] a = [] from rfl]; simp only [laws_heldStepS.l0]; rw [if_neg (by simp)]; simp
  | cons x l ih =>
    intro p a k hp ha hk
    simp only [List.length_cons] at hp ha hk; obtain ⟨k, rfl⟩ : ∃ q, k = q + 1 := ⟨k - 1, by omega⟩; rw [show mkSteps (x :: l) a = ⟨(a : Int), ((a + 1 : Nat) : Int), (⟨((a + 2 : Nat) : Int), ((a + 3 : Nat) : Int), mText (a + 4)⟩ : S99)⟩ :: mkSteps l (a + 5) from rfl]; simp only [laws_heldStepS.l0]
    have a1 : wrap64 ((a : Int) + 1) = ((a + 1 : Nat) : Int) := by rw [w64 (by omega) (by omega)]; omega
    have a2 : wrap64 (((a + 1 : Nat) : Int) + 1) = ((a + 2 : Nat) : Int) := by rw [w64 (by omega) (by omega)]; omega
    have a3 : wrap64 (((a + 2 : Nat) : Int) + 1) = ((a + 3 : Nat) : Int) := by rw [w64 (by omega) (by omega)]; omega
    have a4 : wrap64 (((a + 3 : Nat) : Int) + 1) = ((a + 4 : Nat) : Int) := by rw [w64 (by omega) (by omega)]; omega
    have a5 : wrap64 (((a + 4 : Nat) : Int) + 1) = ((a + 5 : Nat) : Int) := by rw [w64 (by omega) (by omega)]; omega
    rw [if_pos (by rw [List.length_append, List.length_cons]; omega), if_pos (by omega)]; simp only [rdm_step]; rw [a1, a2, a3, a4, a5]; simp only [if_true]; rw [markText_eq (a + 4) (by omega) k (by omega), bsome, if_pos rfl, wnext (i := p.length) (n := p.length + l.length + 1) (by omega) (by omega)]; have := ih (p ++ [⟨(a : Int), ((a + 1 : Nat) : Int), (⟨((a + 2 : Nat) : Int), ((a + 3 : Nat) : Int), mText (a + 4)⟩ : S99)⟩]) (a + 5) k (by rw [List.length_append]; simp only [List.length_cons, List.length_nil]; omega) (by omega) (by omega); rw [List.length_append, ← snoc_cons] at this; rw [show ((p.length + 1 : Nat) : Int) = ((p.length + [(⟨(a : Int), ((a + 1 : Nat) : Int), (⟨((a + 2 : Nat) : Int), ((a + 3 : Nat) : Int), mText (a + 4)⟩ : S99)⟩ : S137)].length : Nat) : Int) from rfl, this]; simp only [List.length_cons]; rw [show a + 5 + 5 * l.length = a + 5 * (l.length + 1) by omega]
theorem heldStepS_at (l : List S137) (a k : Nat) (h : l.length ≤ 1099511627776) (ha : a + 5 * l.length ≤ 1099511627776) (hk : a + 6 * l.length < k) : laws_heldStepS.f k (mkSteps l a) (a : Int) = some ((a + 5 * l.length : Nat) : Int) := by
  have := heldStepS_l l [] a k (by simpa using h) ha hk
  simpa [laws_heldStepS.f] using this
def szt (c : S122) : Nat := 4 + 2 * c.f2.f0.length + 5 * c.f2.f2.length
def szts (l : List S122) : Nat := (l.map szt).sum
theorem szts_cons (c : S122) (l : List S122) : szts (c :: l) = 4 + 2 * c.f2.f0.length + 5 * c.f2.f2.length + szts l := by unfold szts; rw [List.map_cons, List.sum_cons]; rfl
def mkTurn (c : S122) (a : Nat) : S122 := ⟨(a : Int), ((a + 1 : Nat) : Int), (⟨mkSlots c.f2.f0 (a + 2), ((a + 2 + 2 * c.f2.f0.length : Nat) : Int), mkSteps c.f2.f2 (a + 2 + 2 * c.f2.f0.length + 1), ((a + 2 + 2 * c.f2.f0.length + 1 + 5 * c.f2.f2.length : Nat) : Int)⟩ : S120)⟩
def mkTurns : List S122 → Nat → List S122
  | [], _ => []
  | c :: xs, a => mkTurn c a :: mkTurns xs (a + szt c)
theorem mkTurns_length (l : List S122) : ∀ a, (mkTurns l a).length = l.length := by
  induction l with
  | nil => intro a; rfl
  | cons x l ih => intro a; simp only [mkTurns, List.length_cons, ih]
theorem wn (n : Nat) (h : n ≤ 1099511627776) : wrap64 ((n : Int) + 1) = ((n + 1 : Nat) : Int) := by rw [w64 (by omega) (by omega)]; omega
theorem rdm_turn (p : List S122) (x : S122) (r : List S122) : rd_T122 (p ++ x :: r) (p.length : Int) = x := by
  unfold rd_T122
  simp [List.getD_eq_getElem?_getD]
theorem markTurnS_l : ∀ (l p : List S122) (a k : Nat), p.length + l.length ≤ 1099511627776 → a + szts l ≤ 1099511627776 → a + 2 * szts l + l.length < k → laws_markTurnS.l0 k (p ++ l) (a : Int) (p.length : Int) = some (((a + szts l : Nat) : Int), p ++ mkTurns l a) := by
  intro l
  induction l with
  | nil =>
    intro p a k hp ha hk
    obtain ⟨k, rfl⟩ : ∃ q, k = q + 1 := ⟨k - 1, by omega⟩; simp only [laws_markTurnS.l0]; rw [if_neg (by simp)]; simp [mkTurns, szts]
  | cons x l ih =>
    intro p a k hp ha hk
    rw [szts_cons] at ha hk; simp only [List.length_cons] at hp hk; obtain ⟨k, rfl⟩ : ∃ q, k = q + 1 := ⟨k - 1, by omega⟩; simp only [laws_markTurnS.l0]
    have b0 : x.f2.f0.length ≤ 1099511627776 := by omega
    have b1 : a + 2 + 2 * x.f2.f0.length ≤ 1099511627776 := by omega
    have b2 : x.f2.f0.length < k := by omega
    have b3 : x.f2.f2.length ≤ 1099511627776 := by omega
    have b4 : a + 2 + 2 * x.f2.f0.length + 1 + 5 * x.f2.f2.length ≤ 1099511627776 := by omega
    have b5 : a + 2 + 2 * x.f2.f0.length + 1 + 6 * x.f2.f2.length < k := by omega
    have b6 : p.length < p.length + l.length + 1 := by omega
    have b7 : p.length + l.length + 1 ≤ 4611686018427387904 := by omega
    have b8 : a + szt x + szts l ≤ 1099511627776 := by unfold szt; omega
    have b9 : a + szt x + 2 * szts l + l.length < k := by unfold szt; omega
    have b10 : p.length + 1 + l.length ≤ 1099511627776 := by omega
    have e9 : a + 2 + 2 * x.f2.f0.length + 1 + 5 * x.f2.f2.length + 1 = a + szt x := by unfold szt; omega
    have e10 : a + (4 + 2 * x.f2.f0.length + 5 * x.f2.f2.length + szts l) = a + szt x + szts l := by unfold szt; omega
    have a1 : wrap64 ((a : Int) + 1) = ((a + 1 : Nat) : Int) := wn a (by omega); have a2 : wrap64 (((a + 1 : Nat) : Int) + 1) = ((a + 2 : Nat) : Int) := wn (a + 1) (by omega); have a3 : wrap64 (((a + 2 + 2 * x.f2.f0.length : Nat) : Int) + 1) = ((a + 2 + 2 * x.f2.f0.length + 1 : Nat) : Int) := wn _ (by omega)
    have a4 : wrap64 (((a + 2 + 2 * x.f2.f0.length + 1 + 5 * x.f2.f2.length : Nat) : Int) + 1) = ((a + szt x : Nat) : Int) := by rw [wn _ (by omega), e9]
    have c0 : (p.length : Int) < ((p.length + (l.length + 1) : Nat) : Int) := by omega
    have c1 : (0 : Int) ≤ (p.length : Int) := by omega
    have c2 : ∀ n : Nat, ¬ ((n : Int) < 0) := fun n => by omega
    rw [if_pos (by rw [List.length_append, List.length_cons]; first | exact c0 | (rw [mkTurns_length]; exact c0)), if_pos c1]; simp only [rdm_turn]; rw [a1, a2, markSlotS_at x.f2.f0 (a + 2) k b0 b1 b2, bsome]; simp only []; rw [a3, markStepS_at x.f2.f2 (a + 2 + 2 * x.f2.f0.length + 1) k b3 b4 b5, bsome]; simp only []; rw [a4, setm, wnext (i := p.length) (n := p.length + l.length + 1) b6 b7]; have := ih (p ++ [mkTurn x a]) (a + szt x) k (by rw [List.length_append]; exact b10) b8 b9; rw [List.length_append, ← snoc_cons, ← snoc_cons] at this; simp only [mkTurns]; rw [szts_cons, e10, ← this]; rfl
theorem markTurnS_at (l : List S122) (a k : Nat) (h : l.length ≤ 1099511627776) (ha : a + szts l ≤ 1099511627776) (hk : a + 2 * szts l + l.length < k) : laws_markTurnS.f k l (a : Int) = some (((a + szts l : Nat) : Int), mkTurns l a) := by
  have := markTurnS_l l [] a k (by simpa using h) ha hk
  simpa [laws_markTurnS.f] using this
theorem heldTurnS_l : ∀ (l p : List S122) (a k : Nat), p.length + l.length ≤ 1099511627776 → a + szts l ≤ 1099511627776 → a + 2 * szts l + l.length < k → laws_heldTurnS.l0 k (p ++ mkTurns l a) (a : Int) (p.length : Int) = some ((a + szts l : Nat) : Int) := by
  intro l
  induction l with
  | nil =>
    intro p a k hp ha hk
    obtain ⟨k, rfl⟩ : ∃ q, k = q + 1 := ⟨k - 1, by omega⟩; rw [show mkTurns [] a = [] from rfl]; simp only [laws_heldTurnS.l0]; rw [if_neg (by simp)]; simp [szts]
  | cons x l ih =>
    intro p a k hp ha hk
    rw [szts_cons] at ha hk; simp only [List.length_cons] at hp hk; obtain ⟨k, rfl⟩ : ∃ q, k = q + 1 := ⟨k - 1, by omega⟩; rw [show mkTurns (x :: l) a = mkTurn x a :: mkTurns l (a + szt x) from rfl]; simp only [laws_heldTurnS.l0]
    have b0 : x.f2.f0.length ≤ 1099511627776 := by omega
    have b1 : a + 2 + 2 * x.f2.f0.length ≤ 1099511627776 := by omega
    have b2 : x.f2.f0.length < k := by omega
    have b3 : x.f2.f2.length ≤ 1099511627776 := by omega
    have b4 : a + 2 + 2 * x.f2.f0.length + 1 + 5 * x.f2.f2.length ≤ 1099511627776 := by omega
    have b5 : a + 2 + 2 * x.f2.f0.length + 1 + 6 * x.f2.f2.length < k := by omega
    have b6 : p.length < p.length + l.length + 1 := by omega
    have b7 : p.length + l.length + 1 ≤ 4611686018427387904 := by omega
    have b8 : a + szt x + szts l ≤ 1099511627776 := by unfold szt; omega
    have b9 : a + szt x + 2 * szts l + l.length < k := by unfold szt; omega
    have b10 : p.length + 1 + l.length ≤ 1099511627776 := by omega
    have e9 : a + 2 + 2 * x.f2.f0.length + 1 + 5 * x.f2.f2.length + 1 = a + szt x := by unfold szt; omega
    have e10 : a + (4 + 2 * x.f2.f0.length + 5 * x.f2.f2.length + szts l) = a + szt x + szts l := by unfold szt; omega
    have a1 : wrap64 ((a : Int) + 1) = ((a + 1 : Nat) : Int) := wn a (by omega); have a2 : wrap64 (((a + 1 : Nat) : Int) + 1) = ((a + 2 : Nat) : Int) := wn (a + 1) (by omega); have a3 : wrap64 (((a + 2 + 2 * x.f2.f0.length : Nat) : Int) + 1) = ((a + 2 + 2 * x.f2.f0.length + 1 : Nat) : Int) := wn _ (by omega)
    have a4 : wrap64 (((a + 2 + 2 * x.f2.f0.length + 1 + 5 * x.f2.f2.length : Nat) : Int) + 1) = ((a + szt x : Nat) : Int) := by rw [wn _ (by omega), e9]
    have c0 : (p.length : Int) < ((p.length + (l.length + 1) : Nat) : Int) := by omega
    have c1 : (0 : Int) ≤ (p.length : Int) := by omega
    have c2 : ∀ n : Nat, ¬ ((n : Int) < 0) := fun n => by omega
    rw [if_pos (by rw [List.length_append, List.length_cons]; first | exact c0 | (rw [mkTurns_length]; exact c0)), if_pos c1]; simp only [rdm_turn]; have e0 : (mkTurn x a).f0 = (a : Int) := rfl; have e1 : (mkTurn x a).f1 = ((a + 1 : Nat) : Int) := rfl; have e2 : (mkTurn x a).f2.f0 = mkSlots x.f2.f0 (a + 2) := rfl; have e3 : (mkTurn x a).f2.f1 = ((a + 2 + 2 * x.f2.f0.length : Nat) : Int) := rfl; have e4 : (mkTurn x a).f2.f2 = mkSteps x.f2.f2 (a + 2 + 2 * x.f2.f0.length + 1) := rfl; have e5 : (mkTurn x a).f2.f3 = ((a + 2 + 2 * x.f2.f0.length + 1 + 5 * x.f2.f2.length : Nat) : Int) := rfl; rw [e0, e1, e2, e3, e4, e5, a1, a2]; simp only [if_true]; rw [heldSlotS_at x.f2.f0 (a + 2) k b0 b1 b2, bsome, if_neg (c2 _), a3]; simp only [if_true]; rw [heldStepS_at x.f2.f2 (a + 2 + 2 * x.f2.f0.length + 1) k b3 b4 b5, bsome, if_neg (c2 _), a4]; simp only [if_true]; rw [wnext (i := p.length) (n := p.length + l.length + 1) b6 b7]; have := ih (p ++ [mkTurn x a]) (a + szt x) k (by rw [List.length_append]; exact b10) b8 b9; rw [List.length_append, ← snoc_cons] at this; rw [szts_cons, e10, ← this]; rfl
theorem heldTurnS_at (l : List S122) (a k : Nat) (h : l.length ≤ 1099511627776) (ha : a + szts l ≤ 1099511627776) (hk : a + 2 * szts l + l.length < k) : laws_heldTurnS.f k (mkTurns l a) (a : Int) = some ((a + szts l : Nat) : Int) := by
  have := heldTurnS_l l [] a k (by simpa using h) ha hk
  simpa [laws_heldTurnS.f] using this
theorem szts_cTurn (l : List S115) : szts (l.map cTurn) ≤ 5 * szTurns l := by
  induction l with
  | nil => simp [szts]
  | cons x l ih =>
    rw [List.map_cons, szts_cons]
    have e : szTurns (x :: l) = 1 + (x.f2.f0.length + (x.f2.f2.length + (x.f2.f2.map szStep).sum)) + szTurns l := by
      unfold szTurns; rw [List.map_cons, List.sum_cons, List.length_cons]; unfold szTurn szUpd szSteps; omega
    have e0 : (cTurn x).f2.f0.length = x.f2.f0.length := by unfold cTurn cUpd; simp
    have e1 : (cTurn x).f2.f2.length = x.f2.f2.length := by unfold cTurn cUpd; simp
    omega
theorem szts_le {l : List S122} {M : Nat} (h : ∀ c ∈ l, UB M c.f2) : szts l ≤ l.length * (4 + 7 * M) := by
  induction l with
  | nil => simp [szts]
  | cons x l ih =>
    rw [szts_cons, List.length_cons]; have := ih (fun c hc => h c (List.mem_cons_of_mem _ hc)); obtain ⟨a, b, _⟩ := h x List.mem_cons_self
    have e : 4 + 2 * x.f2.f0.length + 5 * x.f2.f2.length ≤ 4 + 7 * M := by omega
    have e2 : (l.length + 1) * (4 + 7 * M) = (4 + 7 * M) + l.length * (4 + 7 * M) := by rw [Nat.succ_mul, Nat.add_comm]
    rw [e2]
    exact Nat.add_le_add e this
def joinT (acc : List S122) (t : S122) : List S122 :=
  if t.f0 = 1 ∧ t.f1 = 0 then acc else match acc.getLast? with
    | none => acc ++ [t]
    | some z => if t.f0 = 2 ∧ z.f0 = 2 then acc else if t.f0 = 1 ∧ z.f0 = 1 ∧ z.f1 + t.f1 ≤ 300 then acc.dropLast ++ [⟨z.f0, z.f1 + t.f1, z.f2⟩] else acc ++ [t]
theorem joinT_nil (t : S122) : joinT [] t = if t.f0 = 1 ∧ t.f1 = 0 then [] else [t] := rfl
theorem joinT_snoc (p : List S122) (z t : S122) : joinT (p ++ [z]) t = if t.f0 = 1 ∧ t.f1 = 0 then p ++ [z] else if t.f0 = 2 ∧ z.f0 = 2 then p ++ [z] else if t.f0 = 1 ∧ z.f0 = 1 ∧ z.f1 + t.f1 ≤ 300 then p ++ [⟨z.f0, z.f1 + t.f1, z.f2⟩] else p ++ [z] ++ [t] := by
  unfold joinT
  simp only [List.getLast?_concat, List.dropLast_concat]
def TB (M : Nat) (t : S122) : Prop := (t.f0 = 1 → 0 ≤ t.f1 ∧ t.f1 ≤ 300) ∧ UB M t.f2
theorem joinT_TB {M : Nat} {acc : List S122} {t : S122} (ha : ∀ c ∈ acc, TB M c) (ht : TB M t) : (∀ c ∈ joinT acc t, TB M c) ∧ (joinT acc t).length ≤ acc.length + 1 := by
  rcases List.eq_nil_or_concat acc with rfl | ⟨p, z, rfl⟩
  · rw [joinT_nil]
    split
    · exact ⟨by simp, by simp⟩
    · exact ⟨fun c hc => by rw [List.mem_singleton.1 hc]; exact ht, by simp⟩
  · rw [List.concat_eq_append] at ha ⊢
    rw [joinT_snoc]; have hz : TB M z := ha z (by simp)
    split
    · exact ⟨ha, by omega⟩
    · split
      · exact ⟨ha, by omega⟩
      · split
        · rename_i h
          refine ⟨fun c hc => ?_, by simp⟩
          rcases List.mem_append.1 hc with hc | hc
          · exact ha c (by simp [hc])
          · rw [List.mem_singleton.1 hc]
            refine ⟨fun _ => ?_, hz.2⟩
            have h1 := hz.1 h.2.1; have h2 := ht.1 h.1
            show 0 ≤ z.f1 + t.f1 ∧ z.f1 + t.f1 ≤ 300
            omega
        · refine ⟨fun c hc => ?_, by simp⟩
          rcases List.mem_append.1 hc with hc | hc
          · exact ha c hc
          · rw [List.mem_singleton.1 hc]; exact ht
theorem spec_copyUpdate_at (t : S120) (h : UB 2097151 t) : spec_copyUpdate.f t.f0 t.f1 t.f2 t.f3 = some (t.f0, t.f1, t.f2, t.f3) := by
  obtain ⟨h0, h1, _⟩ := h
  unfold spec_copyUpdate.f
  rw [bsome, if_pos (by simp only [List.length_nil]; omega), bsome, if_pos (by simp only [List.length_nil]; omega)]; rfl
theorem impl_turnCopy_at (t : S122) (h : UB 2097151 t.f2) : impl_turnCopy.f t.f0 t.f1 t.f2.f0 t.f2.f1 t.f2.f2 t.f2.f3 = some (t.f0, t.f1, t.f2.f0, t.f2.f1, t.f2.f2, t.f2.f3) := by
  obtain ⟨h0, h1, _⟩ := h
  unfold impl_turnCopy.f impl_updateCopy.f impl_placeCopy.f impl_formCopy.f
  rw [if_pos (by simp only [List.length_nil]; omega), bsome, if_pos (by simp only [List.length_nil]; omega), bsome, bsome]; rfl
theorem spec_join1 (l : List S122) (hc : ∀ c ∈ l, TB 2097151 c) (hl : l.length ≤ 60) (i : Nat) (h : i < l.length) (acc : List S122) (ha : ∀ c ∈ acc, TB 2097151 c) (hal : acc.length ≤ 60) (B : Nat) (R : Option (List S122))
    (hR : ∀ q, B ≤ q → spec_joined.l0 q l (joinT acc l[i]) ((i + 1 : Nat) : Int) = R) (q : Nat) (hq : B + 3 ≤ q) : spec_joined.l0 q l acc (i : Int) = R := by
  have ht := hc _ (List.getElem_mem h); have ecu := spec_copyUpdate_at l[i].f2 ht.2; have wi := wnext h (show l.length ≤ 4611686018427387904 by omega); obtain ⟨q, rfl⟩ : ∃ p, q = p + 3 := ⟨q - 3, by omega⟩
  have i0 : (0 : Int) ≤ (i : Int) := by omega
  have i1 : (i : Int) < (l.length : Int) := by omega
  generalize hte : l[i] = t at *
  have hrd : rd_T122 l (i : Int) = t := by rw [rd_turn h, hte]
  have al : acc.length < 1759218604441 := by omega
  have key : ∀ b : Bool, (b = true ↔ t.f0 = 1 ∧ t.f1 = 0) → spec_joined.j1 (q + 2) l acc (i : Int) (wrap64 ((acc.length : Int) - 1)) b = R := by
    intro b hb
    simp only [spec_joined.j1]; cases b
    · have hn : ¬ (t.f0 = 1 ∧ t.f1 = 0) := fun h => by have := hb.2 h; cases this
      rw [if_neg (by decide), if_pos i0, if_pos i1, hrd]
      rcases List.eq_nil_or_concat acc with rfl | ⟨p, z, rfl⟩
      · have e1 : wrap64 (((([] : List S122).length : Nat) : Int) - 1) = -1 := by rw [List.length_nil, w64 (by omega) (by omega)]; rfl
        rw [e1]
        have j2 : spec_joined.j2 (q + 1) l [] (i : Int) (-1) false = R := by
          simp only [spec_joined.j2]; have := hR q (by omega); rw [joinT_nil, if_neg hn] at this; rw [if_neg (by decide), if_pos i0, if_pos i1, hrd, ecu, bsome, if_pos al, wi]
          by_cases h2 : t.f0 = 2
          · rw [if_pos h2, if_neg (by omega)]; exact this
          · rw [if_neg h2]; exact this
        by_cases h1 : t.f0 = 1
        · rw [if_pos h1, if_neg (by omega)]; exact j2
        · rw [if_neg h1]; exact j2
      · rw [List.concat_eq_append] at *
        have hz : TB 2097151 z := ha z (by simp)
        have hpl : p.length + 1 ≤ 60 := by simpa using hal
        have e1 : wrap64 ((((p ++ [z]).length : Nat) : Int) - 1) = (p.length : Int) := by
          rw [show (((p ++ [z]).length : Nat) : Int) = (p.length : Int) + 1 by simp, w64 (by omega) (by omega)]; omega
        have p0 : (0 : Int) ≤ (p.length : Int) := by omega
        have p1 : (p.length : Int) < ((p ++ [z]).length : Int) := by simp only [List.length_append, List.length_cons, List.length_nil]; omega
        have hrz : rd_T122 (p ++ [z]) (p.length : Int) = z := rdm_turn p z []; rw [e1]
        have j2 : ∀ b2 : Bool, (b2 = true ↔ t.f0 = 1 ∧ z.f0 = 1 ∧ z.f1 + t.f1 ≤ 300) → spec_joined.j2 (q + 1) l (p ++ [z]) (i : Int) (p.length : Int) b2 = R := by
          intro b2 hb2
          simp only [spec_joined.j2]; have hj := hR q (by omega); rw [joinT_snoc, if_neg hn] at hj; cases b2
          · have hn2 : ¬ (t.f0 = 1 ∧ z.f0 = 1 ∧ z.f1 + t.f1 ≤ 300) := fun h => by have := hb2.2 h; cases this
            rw [if_neg hn2] at hj; rw [if_neg (by decide), if_pos i0, if_pos i1, hrd, hrz, ecu, bsome, if_pos al, wi]
            by_cases h2 : t.f0 = 2
            · rw [if_pos h2, if_pos p0, if_pos p0, if_pos p1]
              by_cases h3 : z.f0 = 2
              · rw [if_pos h3]; rw [if_pos ⟨h2, h3⟩] at hj; exact hj
              · rw [if_neg h3]; rw [if_neg (fun h => h3 h.2)] at hj; exact hj
            · rw [if_neg h2]; rw [if_neg (fun h => h2 h.1)] at hj; exact hj
          · obtain ⟨h1, h2, h3⟩ := hb2.1 rfl
            have t1 := ht.1 h1; have z1 := hz.1 h2; rw [if_neg (by omega), if_pos ⟨h1, h2, h3⟩] at hj; rw [if_pos rfl, if_pos p0, if_pos p1, if_pos i0, if_pos i1, hrd, hrz, w64 (by omega) (by omega), setm, wi]; exact hj
        by_cases h1 : t.f0 = 1
        · have t1 := ht.1 h1
          rw [if_pos h1, if_pos p0, if_pos p0, if_pos p1, hrz]
          by_cases h2 : z.f0 = 1
          · have z1 := hz.1 h2
            rw [if_pos h2, w64 (by omega) (by omega)]
            exact j2 _ (by rw [decide_eq_true_eq]; exact ⟨fun h => ⟨h1, h2, h⟩, fun h => h.2.2⟩)
          · rw [if_neg h2]
            exact j2 false ⟨fun h => (by cases h), fun h => absurd h.2.1 h2⟩
        · rw [if_neg h1]
          exact j2 false ⟨fun h => (by cases h), fun h => absurd h.1 h1⟩
    · have hy := hb.1 rfl
      rw [if_pos rfl, wi]
      have : joinT acc t = acc := by unfold joinT; rw [if_pos hy]
      have hj := hR (q + 1) (by omega); rw [this] at hj; exact hj
  show spec_joined.l0 (q + 2 + 1) l acc (i : Int) = R
  simp only [spec_joined.l0]; rw [if_pos i1, if_pos i0, hrd]
  by_cases h1 : t.f0 = 1
  · rw [if_pos h1]
    exact key _ (by rw [beq_iff_eq]; exact ⟨fun h => ⟨h1, h⟩, fun h => h.2⟩)
  · rw [if_neg h1]
    exact key false ⟨fun h => (by cases h), fun h => absurd h.1 h1⟩
theorem impl_join1 (l : List S122) (hc : ∀ c ∈ l, TB 2097151 c) (hl : l.length ≤ 60) (i : Nat) (h : i < l.length) (acc : List S122) (ha : ∀ c ∈ acc, TB 2097151 c) (hal : acc.length ≤ 60) (B : Nat) (R : Option (List S122))
    (hR : ∀ q, B ≤ q → impl_TurnsJoin.l0 q (joinT acc l[i]) l (l.length : Int) ((i + 1 : Nat) : Int) = R) (q : Nat) (hq : B + 3 ≤ q) : impl_TurnsJoin.l0 q acc l (l.length : Int) (i : Int) = R := by
  have ht := hc _ (List.getElem_mem h); have ecu := impl_turnCopy_at l[i] ht.2; have wi := wnext h (show l.length ≤ 4611686018427387904 by omega); obtain ⟨q, rfl⟩ : ∃ p, q = p + 3 := ⟨q - 3, by omega⟩
  have i0 : (0 : Int) ≤ (i : Int) := by omega
  have i1 : (i : Int) < (l.length : Int) := by omega
  generalize hte : l[i] = t at *
  have hrd : rd_T122 l (i : Int) = t := by rw [rd_turn h, hte]
  have al : acc.length < 1759218604441 := by omega
  have key : ∀ b : Bool, (b = true ↔ t.f0 = 1 ∧ t.f1 = 0) → impl_TurnsJoin.j1 (q + 2) acc (acc.length : Int) l (l.length : Int) (i : Int) b t.f0 t.f1 t.f2.f0 t.f2.f1 t.f2.f2 t.f2.f3 = R := by
    intro b hb
    simp only [impl_TurnsJoin.j1]; cases b
    · have hn : ¬ (t.f0 = 1 ∧ t.f1 = 0) := fun h => by have := hb.2 h; cases this
      rw [if_neg (by decide)]
      rcases List.eq_nil_or_concat acc with rfl | ⟨p, z, rfl⟩
      · have j2 : impl_TurnsJoin.j2 (q + 1) [] ((([] : List S122).length : Nat) : Int) l (l.length : Int) (i : Int) false t.f0 t.f1 t.f2.f0 t.f2.f1 t.f2.f2 t.f2.f3 = R := by
          simp only [impl_TurnsJoin.j2]; have := hR q (by omega); rw [joinT_nil, if_neg hn] at this; rw [if_neg (by decide), ecu, bsome, if_pos al, wi]; exact this
        rw [if_neg (by simp)]; exact j2
      · rw [List.concat_eq_append] at *
        have hz : TB 2097151 z := ha z (by simp)
        have hpl : p.length + 1 ≤ 60 := by simpa using hal
        have e1 : wrap64 ((((p ++ [z]).length : Nat) : Int) - 1) = (p.length : Int) := by
          rw [show (((p ++ [z]).length : Nat) : Int) = (p.length : Int) + 1 by simp, w64 (by omega) (by omega)]; omega
        have p0 : (0 : Int) ≤ (p.length : Int) := by omega
        have p1 : (p.length : Int) < ((p ++ [z]).length : Int) := by simp only [List.length_append, List.length_cons, List.length_nil]; omega
        have p2 : ((p ++ [z]).length : Int) > 0 := by simp only [List.length_append, List.length_cons, List.length_nil]; omega
        have hrz : rd_T122 (p ++ [z]) (p.length : Int) = z := rdm_turn p z []; have hj := hR q (by omega); rw [joinT_snoc, if_neg hn] at hj
        have j2 : ∀ b2 : Bool, (b2 = true ↔ z.f0 = t.f0) → impl_TurnsJoin.j2 (q + 1) (p ++ [z]) (((p ++ [z]).length : Nat) : Int) l (l.length : Int) (i : Int) b2 t.f0 t.f1 t.f2.f0 t.f2.f1 t.f2.f2 t.f2.f3 = R := by
          intro b2 hb2
          simp only [impl_TurnsJoin.j2]; cases b2
          · have hn2 : ¬ (z.f0 = t.f0) := fun h => by have := hb2.2 h; cases this
            rw [if_neg (fun h => hn2 (by omega)), if_neg (fun h => hn2 (by omega))] at hj; rw [if_neg (by decide), ecu, bsome, if_pos al, wi]; exact hj
          · have hzt := hb2.1 rfl
            rw [if_pos rfl, e1, hrz]
            by_cases h2 : t.f0 = 2
            · rw [if_pos h2, wi]; rw [if_pos ⟨h2, by omega⟩] at hj; exact hj
            · rw [if_neg h2]
              rw [if_neg (fun h => h2 h.1)] at hj
              by_cases h1 : t.f0 = 1
              · have t1 := ht.1 h1
                have z1 := hz.1 (by omega); rw [if_pos h1, if_pos p0, if_pos p1, w64 (n := z.f1 + t.f1) (by omega) (by omega)]
                by_cases h3 : z.f1 + t.f1 ≤ 300
                · rw [if_pos ⟨h1, by omega, h3⟩] at hj
                  rw [if_pos h3, setm, wi]; exact hj
                · rw [if_neg (fun h => h3 h.2.2)] at hj
                  rw [if_neg h3, ecu, bsome, if_pos al, wi]; exact hj
              · rw [if_neg (fun h => h1 h.1)] at hj
                rw [if_neg h1, ecu, bsome, if_pos al, wi]; exact hj
        rw [if_pos p2, e1, if_pos p0, if_pos p1, hrz]
        exact j2 _ (by rw [beq_iff_eq])
    · have hy := hb.1 rfl
      rw [if_pos rfl, wi]
      have : joinT acc t = acc := by unfold joinT; rw [if_pos hy]
      have hj := hR (q + 1) (by omega); rw [this] at hj; exact hj
  show impl_TurnsJoin.l0 (q + 2 + 1) acc l (l.length : Int) (i : Int) = R
  simp only [impl_TurnsJoin.l0]; rw [if_pos i1, if_pos i0, if_pos i1, hrd]
  by_cases h1 : t.f0 = 1
  · rw [if_pos h1]
    exact key _ (by rw [beq_iff_eq]; exact ⟨fun h => ⟨h1, h⟩, fun h => h.2⟩)
  · rw [if_neg h1]
    exact key false ⟨fun h => (by cases h), fun h => absurd h.1 h1⟩
def joinR (l : List S122) : List S122 := if (decide (l.length ≤ 60) && l.all turnOk) = true then l.foldl joinT [] else []
theorem turn_TB {l : List S122} {M : Nat} (hc : ∀ c ∈ l, UB M c.f2) (hv : (decide (l.length ≤ 60) && l.all turnOk) = true) : l.length ≤ 60 ∧ ∀ c ∈ l, TB M c := by
  rw [Bool.and_eq_true, decide_eq_true_eq, List.all_eq_true] at hv
  refine ⟨hv.1, fun c h => ⟨fun h1 => ?_, hc c h⟩⟩
  have h2 := hv.2 c h
  unfold turnOk at h2
  rw [if_neg (by omega), if_pos h1, Bool.and_eq_true] at h2
  exact of_decide_eq_true h2.1
theorem fold_TB {M : Nat} : ∀ (l acc : List S122), (∀ c ∈ acc, TB M c) → (∀ c ∈ l, TB M c) → (∀ c ∈ l.foldl joinT acc, TB M c) ∧ (l.foldl joinT acc).length ≤ acc.length + l.length := by
  intro l
  induction l with
  | nil => intro acc ha _; exact ⟨ha, by simp⟩
  | cons t l ih =>
    intro acc ha hc
    obtain ⟨h1, h2⟩ := joinT_TB ha (hc t List.mem_cons_self); obtain ⟨h3, h4⟩ := ih (joinT acc t) h1 (fun c h => hc c (List.mem_cons_of_mem _ h))
    exact ⟨h3, by rw [List.foldl_cons, List.length_cons]; omega⟩
theorem joinR_bound {l : List S122} {M : Nat} (hc : ∀ c ∈ l, UB M c.f2) : (joinR l).length ≤ 60 ∧ ∀ c ∈ joinR l, UB M c.f2 := by
  unfold joinR
  split
  · rename_i hv
    obtain ⟨h1, h2⟩ := turn_TB hc hv; obtain ⟨h3, h4⟩ := fold_TB l [] (by simp) h2
    exact ⟨by simp at h4; omega, fun c h => (h3 c h).2⟩
  · exact ⟨by simp, by simp⟩
theorem spec_joinR (l : List S122) (hl : l.length ≤ 1048576) (hc : ∀ c ∈ l, UB 2097151 c.f2) (k : Nat) (hk : 16777217 < k) : spec_TurnsJoin.f k l = some (joinR l) := by
  unfold spec_TurnsJoin.f joinR
  rw [spec_turns_at l hl hc k (by omega), bsome]
  by_cases hv : (decide (l.length ≤ 60) && l.all turnOk) = true
  · rw [if_pos hv, if_pos hv]
    obtain ⟨h1, h2⟩ := turn_TB hc hv; have := loop_s (n := l.length) (m := 0) (s := 3) (by omega) (fun k i => ∀ q, k ≤ q → ∀ acc : List S122, acc.length ≤ i → (∀ c ∈ acc, TB 2097151 c) → spec_joined.l0 q l acc (i : Int) = some ((l.drop i).foldl joinT acc))
      (fun k _ q hq acc ha hb => by
        obtain ⟨q, rfl⟩ : ∃ p, q = p + 1 := ⟨q - 1, by omega⟩; simp only [spec_joined.l0]
        rw [if_neg (by omega)]; simp)
      (fun k i h _ ih q hq acc ha hb => by
        refine spec_join1 l h2 h1 i h acc hb (by omega) k _ (fun z hz => ?_) q hq
        obtain ⟨h3, h4⟩ := joinT_TB hb (h2 _ (List.getElem_mem h))
        rw [ih z hz _ (by omega) h3, drop_cons h, List.foldl_cons]) l.length 0 k (by omega) (by omega) (by omega) k (Nat.le_refl _) [] (by simp) (by simp)
    unfold spec_joined.f
    rw [show spec_joined.l0 k l [] 0 = some (l.foldl joinT []) by simpa using this, bsome]
  · rw [if_neg hv, if_neg hv]
theorem impl_joinR (l : List S122) (hl : l.length ≤ 1048576) (hc : ∀ c ∈ l, UB 2097151 c.f2) (k : Nat) (hk : 16777217 < k) : impl_TurnsJoin.f k l = some (joinR l) := by
  unfold impl_TurnsJoin.f joinR
  rw [impl_turns_at l hl hc k (by omega), bsome]
  by_cases hv : (decide (l.length ≤ 60) && l.all turnOk) = true
  · rw [if_pos hv, if_pos hv]
    obtain ⟨h1, h2⟩ := turn_TB hc hv; have := loop_s (n := l.length) (m := 0) (s := 3) (by omega) (fun k i => ∀ q, k ≤ q → ∀ acc : List S122, acc.length ≤ i → (∀ c ∈ acc, TB 2097151 c) → impl_TurnsJoin.l0 q acc l (l.length : Int) (i : Int) = some ((l.drop i).foldl joinT acc))
      (fun k _ q hq acc ha hb => by
        obtain ⟨q, rfl⟩ : ∃ p, q = p + 1 := ⟨q - 1, by omega⟩; simp only [impl_TurnsJoin.l0]
        rw [if_neg (by omega)]; simp)
      (fun k i h _ ih q hq acc ha hb => by
        refine impl_join1 l h2 h1 i h acc hb (by omega) k _ (fun z hz => ?_) q hq
        obtain ⟨h3, h4⟩ := joinT_TB hb (h2 _ (List.getElem_mem h))
        rw [ih z hz _ (by omega) h3, drop_cons h, List.foldl_cons]) l.length 0 k (by omega) (by omega) (by omega) k (Nat.le_refl _) [] (by simp) (by simp)
    simpa using this
  · rw [if_neg hv, if_neg hv]
def G94 (x : S94) : Prop := (Lit.int .i64 x.f0).wf = true ∧ ((Lit.int .i64 x.f1).wf = true)
def G105 (x : S105) : Prop := (Lit.int .i64 x.f0).wf = true ∧ ((Lit.int .i64 x.f1).wf = true ∧ (x.f2.size ≤ maxLen))
def G147 (x : S147) : Prop := (Lit.int .i64 x.f0).wf = true ∧ ((Lit.int .i64 x.f1).wf = true ∧ (G105 x.f2))
def G113 (x : S113) : Prop := (x.f0.length ≤ maxLen ∧ ∀ ex_f0 ∈ x.f0, G94 ex_f0) ∧ ((Lit.int .i64 x.f1).wf = true ∧ ((x.f2.length ≤ maxLen ∧ ∀ ex_f2 ∈ x.f2, G147 ex_f2) ∧ ((Lit.int .i64 x.f3).wf = true)))
def G115 (x : S115) : Prop := (Lit.int .i64 x.f0).wf = true ∧ ((Lit.int .i64 x.f1).wf = true ∧ (G113 x.f2))
def PureFnExactTurnsJoin : Prop := ∀ (l0 : List (S115)), l0.length ≤ maxLen → (∀ x ∈ l0, G115 x) → ∃ k, laws_FnExactTurnsJoin.f k l0 = some true
theorem FnExactTurnsJoin : PureFnExactTurnsJoin := by
  intro l hl hg
  obtain ⟨K, hK⟩ : ∃ K : Nat, K = 2147483648 := ⟨_, rfl⟩
  refine ⟨K + 1, ?_⟩
  obtain ⟨r, hr, h1, h2⟩ := szTurnS_at l hl (fun x hx => ⟨(hg x hx).2.2.1.1, (hg x hx).2.2.2.2.1.1, fun v hv => ((hg x hx).2.2.2.2.1.2 v hv).2.2.2.2⟩) 1048576 (by omega) (K + 1) (by omega)
  unfold laws_FnExactTurnsJoin.f
  rw [hr, bsome]
  by_cases h : r < 0
  · rw [if_pos h]
  rw [if_neg h]
  have hs : szTurns l ≤ 1048576 := by have := h2 (by omega); omega
  obtain ⟨h3, h4⟩ := turns_UB hs
  have hlen : (l.map cTurn).length ≤ 1048576 := by simpa using h3
  have h4' : ∀ u ∈ l.map cTurn, UB 2097151 u.f2 := fun u hu => by obtain ⟨a, b, c⟩ := h4 u hu; exact ⟨by omega, by omega, fun x hx => by have := c x hx; omega⟩
  have hm : szts (l.map cTurn) ≤ 5242880 := by have := szts_cTurn l; omega
  have hto : ∀ q, 2097160 < q → laws_toTurnS.f q l = some (l.map cTurn) := fun q hq => toTurnS_at l hs q hq
  generalize l.map cTurn = a at *
  have hsp : ∀ q, 16777217 < q → spec_TurnsJoin.f q a = some (joinR a) := fun q hq => spec_joinR a hlen h4' q hq
  have him : ∀ q, 16777217 < q → impl_TurnsJoin.f q a = some (joinR a) := fun q hq => impl_joinR a hlen h4' q hq
  obtain ⟨hb1, hb2⟩ := joinR_bound h4; generalize joinR a = g at *
  have hb3 : szts g ≤ 440402160 := by
    have := szts_le hb2; have := Nat.mul_le_mul_right (4 + 7 * 1048576) hb1
    omega
  have heq : ∀ q, 4194304 < q → laws_eqTurnS.f q g g = some true := fun q hq => eqTurnS_refl g (by omega) (fun c hc => by obtain ⟨a, b, d⟩ := hb2 c hc; exact ⟨by omega, by omega, fun x hx => by have := d x hx; omega⟩) q (by omega)
  have hma : ∀ q, 33554432 < q → laws_markTurnS.f q a 1 = some (((1 + szts a : Nat) : Int), mkTurns a 1) := fun q hq => markTurnS_at a 1 q (by omega) (by omega) (by omega)
  have hmg : ∀ q, 1000000000 < q → laws_markTurnS.f q g 1 = some (((1 + szts g : Nat) : Int), mkTurns g 1) := fun q hq => markTurnS_at g 1 q (by omega) (by omega) (by omega)
  have hhg : ∀ q, 1000000000 < q → laws_heldTurnS.f q (mkTurns g 1) 1 = some ((1 + szts g : Nat) : Int) := fun q hq => heldTurnS_at g 1 q (by omega) (by omega) (by omega)
  have j0 : laws_FnExactTurnsJoin.j0 (K + 1) l g g false = some true := by
    simp only [laws_FnExactTurnsJoin.j0]; rw [if_neg (by decide), hmg K (by omega), bsome]
    show Option.bind (laws_heldTurnS.f K (mkTurns g 1) 1) _ = _
    rw [hhg K (by omega), bsome, if_neg (by omega), if_pos rfl, hto K (by omega), bsome, him K (by omega), bsome, heq K (by omega), bsome, if_pos rfl]
    first
      | (show Option.bind (laws_heldTurnS.f K (mkTurns g 1) 1) _ = _
         rw [hhg K (by omega), bsome, if_neg (by omega), if_pos rfl])
      | (rw [bsome, if_neg (by omega), if_pos rfl])
  simp only [hto (K + 1) (by omega), hsp (K + 1) (by omega), him (K + 1) (by omega), heq (K + 1) (by omega), eqTurnS_refl a (by omega) h4' (K + 1) (by omega), hma (K + 1) (by omega), bsome, if_true]; rw [if_neg (by show ¬ (((1 + szts a : Nat) : Int) < 0); omega)]
  exact j0
end Go.Proofs.Ytpadhphdglbciaa.Pure
