/- The pure statement of the law 'FnProgBelow': for every list of bytes the law's function returns true (no condition but that of the form: the list's length). -/
import Derived.Test.YtmgdjmeoljepgaaZFnProgBelowQFnProgBelowx26
namespace Go.Proofs.Ytmgdjmeoljepgaa.Pure
open Go Go.RowKit Go.Proofs.Ytmgdjmeoljepgaa.PFnProgBelow Go.Proofs.YtmgdjmeoljepgaaW.PrintWords Go.Proofs.YtmgdjmeoljepgaaW.PrintLast Go.Proofs.YtmgdjmeoljepgaaW.PrintMore
set_option linter.unusedVariables false
set_option linter.unusedSimpArgs false
theorem w64 {n : Int} (h1 : -9223372036854775808 ≤ n) (h2 : n ≤ 9223372036854775807) : wrap64 n = n:=by
 unfold wrap64;omega
theorem wnext {i n : Nat} (h : i < n) (hn : n ≤ 4611686018427387904) : wrap64 ((i : Int) + 1) = ((i + 1 : Nat) : Int):=by
 rw [w64 (by omega) (by omega)];omega
theorem loop_up {n : Nat} (Q : Nat → Nat → Prop) (last : ∀ k,Q (k + 1) n) (step : ∀ k i,i < n → Q k (i + 1) → Q (k + 1) i) : ∀ k i,i ≤ n → n - i < k → Q k i:=by
 intro k
 induction k with
 | zero => intro i _ h;omega
 | succ k ih =>
  intro i hi hk
  by_cases h : i = n
  ·subst h;exact last k
  ·exact step k i (by omega) (ih (i + 1) (by omega) (by omega))
theorem drop_at {α : Type} {l : List α} {i : Nat} (d : α) (h : i < l.length) : l.drop i = l.getD ((i : Int)).toNat d :: l.drop (i + 1):=by
 rw [List.drop_eq_getElem_cons h,List.getD_eq_getElem?_getD]
 simp [h]
theorem range_at {i n : Nat} (h : i < n) : List.range' i (n - i) = i :: List.range' (i + 1) (n - (i + 1)):=by
 rw [show n - i = (n - (i + 1)) + 1 by omega,List.range'_succ]
theorem range_end (n : Nat) : List.range' n (n - n) = []:=by simp
theorem bsome {α β : Type} (a : α) (f : α → Option β) : (some a).bind f = f a:=by
 cases h : f a <;> simp [h]
theorem getD_at {α : Type} {l : List α} {i : Nat} (d : α) (h : i < l.length) : l.getD ((i : Int)).toNat d = l[i]:=by
 simp [List.getD_eq_getElem?_getD,h]
theorem drop_cons {α : Type} {l : List α} {i : Nat} (h : i < l.length) : l.drop i = l[i] :: l.drop (i + 1):=List.drop_eq_getElem_cons h
theorem loop_s {n m s : Nat} (hs : 0 < s) (Q : Nat → Nat → Prop) (last : ∀ k,m ≤ k → Q (k + 1) n) (step : ∀ k i,i < n → m ≤ k → Q k (i + 1) → Q (k + s) i) : ∀ d i k,n - i = d → i ≤ n → d * s + m < k → Q k i:=by
 intro d
 induction d with
 | zero =>
  intro i k hd hi hk
  obtain rfl : i = n:=by omega
  obtain ⟨k,rfl⟩ : ∃ q,k = q + 1:=⟨k - 1,by omega⟩
  exact last k (by omega)
 | succ d ih =>
  intro i k hd hi hk
  rw [Nat.add_mul,Nat.one_mul] at hk;obtain ⟨k,rfl⟩ : ∃ q,k = q + s:=⟨k - s,by omega⟩
  exact step k i (by omega) (by omega) (ih (i + 1) k (by omega) (by omega) (by omega))
theorem all_loop {α : Type} (xs : List α) (F : Nat → Int → Option Bool) (p : α → Bool) (fin : Bool) (m s : Nat) (hs : 0 < s)
  (hend : ∀ k,m ≤ k → F (k + 1) (xs.length : Int) = some fin)
  (hstep : ∀ k i (h : i < xs.length),m ≤ k → F (k + s) (i : Int) = if p xs[i] = true then F k ((i + 1 : Nat) : Int) else some false) :
  ∀ k,xs.length * s + m < k → F k 0 = some (xs.all p && fin):=by
 intro k hk
 have:=loop_s (n:=xs.length) (m:=m) (s:=s) hs (fun k i => F k (i : Int) = some ((xs.drop i).all p && fin)) (fun k hm => by show F (k + 1) (xs.length : Int) = _;rw [hend k hm,List.drop_length];rfl)
  (fun k i h hm ih => by
   show F (k + s) (i : Int) = _
   rw [hstep k i h hm,drop_cons h,List.all_cons];have ih' : F k ((i + 1 : Nat) : Int) = some ((xs.drop (i + 1)).all p && fin):=ih;rw [ih']
   by_cases hp : p xs[i] = true <;> simp [hp]) xs.length 0 k (by omega) (by omega) hk
 simpa using this
theorem map_loop {α β : Type} (xs : List α) (F : Nat → List β → Int → Option (List β)) (c : α → β) (z : β) (m s : Nat) (hs : 0 < s)
  (hend : ∀ k acc,m ≤ k → F (k + 1) acc (xs.length : Int) = some acc)
  (hstep : ∀ k (acc : List β) i (h : i < xs.length),m ≤ k → i < acc.length → F (k + s) acc (i : Int) = F k (acc.set i (c xs[i])) ((i + 1 : Nat) : Int)) :
  ∀ k,xs.length * s + m < k → F k (List.replicate xs.length z) 0 = some (xs.map c):=by
 intro k hk
 have:=loop_s (n:=xs.length) (m:=m) (s:=s) hs (fun k i => ∀ p : List β,p.length = i → F k (p ++ List.replicate (xs.length - i) z) (i : Int) = some (p ++ (xs.drop i).map c))
  (fun k hm p hp => by rw [hend k _ hm];simp)
  (fun k i h hm ih p hp => by
   rw [hstep k _ i h hm (by simp;omega),show xs.length - i = (xs.length - (i + 1)) + 1 by omega,List.replicate_succ]
   have e : (p ++ z :: List.replicate (xs.length - (i + 1)) z).set i (c xs[i]) = (p ++ [c xs[i]]) ++ List.replicate (xs.length - (i + 1)) z:=by
    subst hp;simp
   rw [e,ih (p ++ [c xs[i]]) (by simp [hp]),drop_cons h,List.map_cons,List.append_assoc];rfl) xs.length 0 k (by omega) (by omega) hk [] rfl
 simpa using this
theorem sz_loop {α : Type} (xs : List α) (F : Nat → Int → Int → Option Int) (sz : α → Nat) (m s : Nat) (hs : 0 < s)
  (hend : ∀ (k : Nat) (left : Int),m ≤ k → F (k + 1) left (xs.length : Int) = some left)
  (hstep : ∀ (k : Nat) (left : Int) (i : Nat) (h : i < xs.length),m ≤ k → 0 ≤ left → left ≤ 1048576 → ∃ t,t ≤ left ∧ (0 ≤ t → t = left - sz xs[i]) ∧ F (k + s) left (i : Int) = if t < 0 then some (-1) else F k t ((i + 1 : Nat) : Int)) :
  ∀ (k : Nat) (left : Int),xs.length * s + m < k → 0 ≤ left → left ≤ 1048576 → ∃ r,F k left 0 = some r ∧ r ≤ left ∧ (0 ≤ r → r = left - (xs.map sz).sum):=by
 intro k left hk h0 h1
 have:=loop_s (n:=xs.length) (m:=m) (s:=s) hs (fun k i => ∀ left : Int,0 ≤ left → left ≤ 1048576 → ∃ r,F k left (i : Int) = some r ∧ r ≤ left ∧ (0 ≤ r → r = left - ((xs.drop i).map sz).sum))
  (fun k hm left h0 h1 => ⟨left,by rw [hend k _ hm],by omega,by simp⟩)
  (fun k i h hm ih left h0 h1 => by
   obtain ⟨t,t1,t2,t3⟩:=hstep k left i h hm h0 h1
   by_cases ht : t < 0
   ·exact ⟨-1,by rw [t3,if_pos ht],by omega,by omega⟩
   ·obtain ⟨r,r1,r2,r3⟩:=ih t (by omega) (by omega)
    refine ⟨r,by rw [t3,if_neg ht,r1],by omega,fun hr => ?_⟩
    rw [r3 hr,t2 (by omega),drop_cons h,List.map_cons,List.sum_cons];omega) xs.length 0 k (by omega) (by omega) hk left h0 h1
 simpa using this
theorem sum_mem {α : Type} {xs : List α} {sz : α → Nat} {x : α} (h : x ∈ xs) : sz x ≤ (xs.map sz).sum:=by
 induction xs with
 | nil => cases h
 | cons y ys ih =>
  rw [List.map_cons,List.sum_cons]
  rcases List.mem_cons.1 h with rfl | h
  ·omega
  ·have:=ih h;omega
def Ev {α : Type} (F : Nat → Option α) (v : α) : Prop:=∃ K,∀ k,K ≤ k → F k = some v
theorem Ev.of_mono {α : Type} {F : Nat → Option α} {v : α} {K : Nat} (m : ∀ k,LeO (F k) (F (k + 1))) (h : F K = some v) : Ev F v:=by
 refine ⟨K,fun k hk => ?_⟩
 induction k with
 | zero =>
  have : K = 0:=by omega
  subst this;exact h
 | succ k ih =>
  by_cases e : K = k + 1
  ·subst e;exact h
  ·exact m k _ (ih (by omega))
theorem Ev.of_gt {α : Type} {F : Nat → Option α} {v : α} {K : Nat} (h : ∀ k,K < k → F k = some v) : Ev F v:=⟨K + 1,fun k hk => h k (by omega)⟩
theorem Ev.const {α : Type} {F : Nat → Option α} {v : α} (h : ∀ k,F k = some v) : Ev F v:=⟨0,fun k _ => h k⟩
theorem Ev.pure {α : Type} (v : α) : Ev (fun _ => some v) v:=⟨0,fun _ _ => rfl⟩
theorem Ev.succ {α : Type} {F : Nat → Option α} {v : α} (h : Ev (fun k => F (k + 1)) v) : Ev F v:=by
 obtain ⟨K,h⟩:=h
 refine ⟨K + 1,fun k hk => ?_⟩
 obtain ⟨q,rfl⟩ : ∃ q,k = q + 1:=⟨k - 1,by omega⟩
 exact h q (by omega)
theorem Ev.bind {α β : Type} {F : Nat → Option α} {G : Nat → α → Option β} {a : α} {v : β} (h : Ev F a) (g : Ev (fun k => G k a) v) : Ev (fun k => (F k).bind (G k)) v:=by
 obtain ⟨K,h⟩:=h;obtain ⟨L,g⟩:=g
 refine ⟨max K L,fun k hk => ?_⟩
 have h1:=h k (by omega);have h2 : G k a = some v:=g k (by omega)
 show (F k).bind (G k) = some v
 rw [h1,bsome,h2]
theorem Ev.eq {α : Type} {F : Nat → Option α} {v : α} (h : Ev F v) : ∃ K,∀ k,K ≤ k → F k = some v:=h
theorem Ev.uniq {α : Type} {F : Nat → Option α} {u v : α} (h : Ev F u) (g : Ev F v) : u = v:=by
 obtain ⟨K,h⟩:=h;obtain ⟨L,g⟩:=g;have h1:=h (max K L) (by omega);rw [g (max K L) (by omega)] at h1;injection h1 with h1
 exact h1.symm
theorem Ev.up {α : Type} {n : Nat} {F : Nat → Nat → Option α} {v : α} (last : Ev (fun k => F k n) v) (step : ∀ i,i < n → Ev (fun k => F k (i + 1)) v → Ev (fun k => F k i) v) : ∀ i,i ≤ n → Ev (fun k => F k i) v:=by
 intro i hi
 obtain ⟨d,hd⟩ : ∃ d,d = n - i:=⟨_,rfl⟩
 induction d generalizing i with
 | zero =>
  have : i = n:=by omega
  subst this;exact last
 | succ d ih => exact step i (by omega) (ih (i + 1) (by omega) (by omega))
theorem within_at (a b c : Int) : impl_within.f a b c = some (decide (b ≤ a ∧ a ≤ c)):=by
 unfold impl_within.f
 by_cases h : a ≥ b
 ·rw [if_pos h];congr 1;exact decide_eq_decide.mpr ⟨fun x => ⟨h,x⟩,fun x => x.2⟩
 ·rw [if_neg h];congr 1;exact (decide_eq_false fun x => h x.1).symm
theorem inRange_at (a b c : Int) : spec_inRange.f a b c = some (decide (b ≤ a ∧ a ≤ c)):=by
 unfold spec_inRange.f
 by_cases h : a ≥ b
 ·rw [if_pos h];congr 1;exact decide_eq_decide.mpr ⟨fun x => ⟨h,x⟩,fun x => x.2⟩
 ·rw [if_neg h];congr 1;exact (decide_eq_false fun x => h x.1).symm
def Good (c : Int) : Prop:=(97 ≤ c ∧ c ≤ 122) ∨ (48 ≤ c ∧ c ≤ 57) ∨ c = 32
instance (c : Int) : Decidable (Good c):=by unfold Good;exact inferInstance
def goodsFrom (s : ByteArray) (i : Nat) : Bool:=(List.range' i (s.size - i)).all fun j => decide (Good (bt s j))
theorem goods_at {s : ByteArray} {i : Nat} (h : i < s.size) : goodsFrom s i = (decide (Good (bt s i)) && goodsFrom s (i + 1)):=by
 unfold goodsFrom;rw [range_at h];rfl
theorem goods_end (s : ByteArray) : goodsFrom s s.size = true:=by
 unfold goodsFrom;rw [range_end];rfl
def wordOk (s : ByteArray) : Bool:=goodsFrom s 0 && decide (s.size ≤ 12)
theorem impl_word_l (s : ByteArray) (hs : s.size ≤ 4611686018427387904) : ∀ k i,i ≤ s.size → s.size - i < k → impl_word.l0 k s (i : Int) = some (goodsFrom s i && decide (s.size ≤ 12)):=by
 refine loop_up (fun k i => impl_word.l0 k s (i : Int) = some (goodsFrom s i && decide (s.size ≤ 12))) ?_ ?_
 ·intro k
  simp only [impl_word.l0];rw [if_neg (by omega),goods_end,Bool.true_and]
  congr 1;exact decide_eq_decide.mpr (by omega)
 ·intro k i hi ih
  have e : impl_word.l0 (k + 1) s (i : Int) = if Good (bt s i) then impl_word.l0 k s (wrap64 ((i : Int) + 1)) else some false:=by
   simp only [impl_word.l0];rw [if_pos (by omega),if_pos (by omega)]
   by_cases hg : Good (bt s i)
   ·rw [if_pos hg];unfold Good at hg
    repeat' split
    all_goals first
     | rfl
     | (exfalso;omega)
   ·rw [if_neg hg];unfold Good at hg
    repeat' split
    all_goals first
     | rfl
     | (exfalso;omega)
  rw [e,wnext hi hs,ih,goods_at hi]
  by_cases hg : Good (bt s i) <;> simp [hg]
theorem impl_word_at (s : ByteArray) (hs : s.size ≤ 4611686018427387904) (k : Nat) (hk : s.size < k) : impl_word.f k s = some (wordOk s):=by
 have:=impl_word_l s hs k 0 (by omega) (by omega)
 unfold impl_word.f wordOk
 exact this
theorem plain_at (c : Int) : spec_plainByte.f c = some (decide (Good c)):=by
 unfold spec_plainByte.f
 by_cases hg : Good c
 ·rw [decide_eq_true hg];unfold Good at hg
  repeat' split
  all_goals first
   | rfl
   | (congr 1;exact beq_iff_eq.mpr (by omega))
   | (exfalso;omega)
 ·rw [decide_eq_false hg];unfold Good at hg
  repeat' split
  all_goals first
   | rfl
   | (congr 1;exact beq_eq_false_iff_ne.mpr (by omega))
   | (exfalso;omega)
theorem spec_word_l (s : ByteArray) (hs : s.size ≤ 4611686018427387904) : ∀ k i,i ≤ s.size → s.size - i < k → spec_validWord.l0 k s (i : Int) = some (goodsFrom s i):=by
 refine loop_up (fun k i => spec_validWord.l0 k s (i : Int) = some (goodsFrom s i)) ?_ ?_
 ·intro k
  simp only [spec_validWord.l0];rw [if_neg (by omega),goods_end]
 ·intro k i hi ih
  simp only [spec_validWord.l0];rw [if_pos (by omega),if_pos (by omega),plain_at,goods_at hi];simp only [Option.bind_some,wnext hi hs,ih]
  by_cases hg : Good (bt s i) <;> simp [hg]
theorem spec_word_at (s : ByteArray) (hs : s.size ≤ 4611686018427387904) (k : Nat) (hk : s.size < k) : spec_validWord.f k s = some (wordOk s):=by
 have:=spec_word_l s hs k 0 (by omega) (by omega)
 unfold spec_validWord.f wordOk
 by_cases h : (s.size : Int) > 12
 ·rw [if_pos h,show decide (s.size ≤ 12) = false from decide_eq_false (by omega),Bool.and_false]
 ·rw [if_neg h,show decide (s.size ≤ 12) = true from decide_eq_true (by omega),Bool.and_true];exact this
def vOk (a b : Int) (s : ByteArray) : Bool:=
 if a = 0 then (if b = 0 then s.toList == ([] : List UInt8) else false)
 else if a = 1 then (if -1000 ≤ b ∧ b ≤ 1000 then s.toList == ([] : List UInt8) else false)
 else if a = 2 then (if b = 0 then wordOk s else false) else false
theorem impl_valOk_at (a b : Int) (s : ByteArray) (hs : s.size ≤ 4611686018427387904) (k : Nat) (hk : s.size < k) : impl_ValOk.f k a b s = some (vOk a b s):=by
 unfold impl_ValOk.f vOk
 simp only [within_at,impl_word_at s hs k hk,Option.bind_some,decide_eq_true_eq]
 repeat' split
 all_goals rfl
theorem spec_val_at (a b : Int) (s : ByteArray) (hs : s.size ≤ 4611686018427387904) (k : Nat) (hk : s.size < k) : spec_validValue.f k a b s = some (vOk a b s):=by
 unfold spec_validValue.f vOk
 simp only [inRange_at,spec_word_at s hs k hk,Option.bind_some,decide_eq_true_eq]
 repeat' split
 all_goals rfl
def vOkS (x : S67) : Bool:=vOk x.f0 x.f1 x.f2
def vsOk (l : List S67) : Bool:=l.all vOkS
theorem rd_val {l : List S67} {i : Nat} (h : i < l.length) : rd_T67 l (i : Int) = l[i]:=getD_at z67 h
theorem spec_vals_at (l : List S67) (hl : l.length ≤ 4611686018427387904) (m : Nat) (hm : ∀ x ∈ l,x.f2.size < m) (hm' : m ≤ 4611686018427387904) (k : Nat) (hk : l.length + m < k) : spec_validValues.f k l = some (vsOk l):=by
 unfold spec_validValues.f
 rw [all_loop l (fun k i => spec_validValues.l0 k l i) vOkS true m 1 (by omega)
  (fun k _ => by simp only [spec_validValues.l0];rw [if_neg (by omega)])
  (fun k i h hk => by
   have hx:=hm _ (List.getElem_mem h);simp only [spec_validValues.l0]
   rw [if_pos (by omega),if_pos (by omega),rd_val h,spec_val_at _ _ _ (by omega) k (by omega),bsome,wnext h hl];rfl) k (by omega)]
 unfold vsOk;simp
theorem impl_vals_at (l : List S67) (hl : l.length ≤ 4611686018427387904) (m : Nat) (hm : ∀ x ∈ l,x.f2.size < m) (hm' : m ≤ 4611686018427387904) (k : Nat) (hk : l.length + m < k) : impl_valsOk.f k l = some (vsOk l):=by
 unfold impl_valsOk.f
 rw [all_loop l (fun k i => impl_valsOk.l0 k l (l.length : Int) i) vOkS true m 1 (by omega)
  (fun k _ => by simp only [impl_valsOk.l0];rw [if_neg (by omega)])
  (fun k i h hk => by
   have hx:=hm _ (List.getElem_mem h);simp only [impl_valsOk.l0]
   rw [if_pos (by omega),if_pos (by omega),if_pos (by omega),rd_val h,impl_valOk_at _ _ _ (by omega) k (by omega),bsome,wnext h hl];rfl) k (by omega)]
 unfold vsOk;simp
def valZ (x : S70) : Bool:=x.f2.f0 == 0 && (x.f2.f1 == 0 && (x.f2.f2.toList == ([] : List UInt8)))
def numOk (x : S70) (p s t : Int) : Bool:=
 if x.f0 = 1 then decide (0 ≤ x.f1 ∧ x.f1 ≤ p - 1) else if x.f0 = 2 then decide (0 ≤ x.f1 ∧ x.f1 ≤ s - 1) else if x.f0 = 3 then decide (0 ≤ x.f1 ∧ x.f1 ≤ t - 1)
 else if x.f0 = 4 then decide (0 ≤ x.f1 ∧ x.f1 ≤ 1) else if x.f0 = 5 then decide (0 ≤ x.f1 ∧ x.f1 ≤ 6) else if x.f0 = 6 then decide (x.f1 = 0) else false
def stOk (x : S70) (p s t : Int) : Bool:=if x.f0 = 0 then (decide (x.f1 = 0) && vOk x.f2.f0 x.f2.f1 x.f2.f2) else (valZ x && numOk x p s t)
def takesN (x : S70) : Int:=if x.f0 = 5 then 2 else if x.f0 = 6 then 3 else 0
def fits (p s t : Int) : List S70 → Int → Bool
 | [],n => n == 1
 | x :: xs,n => if stOk x p s t = true ∧ takesN x ≤ n then fits p s t xs (n - takesN x + 1) else false
def formOk (l : List S70) (p s t : Int) : Bool:=fits p s t l 0 && decide (l.length ≤ 9)
theorem takesN_in (x : S70) : 0 ≤ takesN x ∧ takesN x ≤ 3:=by
 unfold takesN
 repeat' split
 all_goals omega
theorem rd_step {l : List S70} {i : Nat} (h : i < l.length) : rd_T70 l (i : Int) = l[i]:=getD_at z70 h
theorem takes_at (x : S70) : spec_takes.f x.f0 x.f1 x.f2.f0 x.f2.f1 x.f2.f2 = some (takesN x):=by
 unfold spec_takes.f takesN;repeat' split
 all_goals rfl
theorem validStep_at' (x : S70) (p s t : Int) (hp : 0 ≤ p ∧ p ≤ 1000) (hq : 0 ≤ s ∧ s ≤ 1000) (ht : 0 ≤ t ∧ t ≤ 1000) (hs : x.f2.f2.size ≤ 4611686018427387904) (k : Nat) (hk : x.f2.f2.size < k) :
  spec_validStep.f k x.f0 x.f1 x.f2.f0 x.f2.f1 x.f2.f2 p s t = some (stOk x p s t):=by
 unfold spec_validStep.f stOk numOk
 rw [w64 (n:=p - 1) (by omega) (by omega),w64 (n:=s - 1) (by omega) (by omega),w64 (n:=t - 1) (by omega) (by omega)];simp only [inRange_at,spec_val_at _ _ _ hs k hk,bsome];have hz : (x.f2.f0 == 0 && (x.f2.f1 == 0 && (x.f2.f2.toList == ([] : List UInt8)))) = valZ x:=rfl;rw [hz]
 by_cases e0 : x.f0 = 0
 ·rw [if_pos e0,if_pos e0]
  by_cases e : x.f1 = 0 <;> simp [e]
 rw [if_neg e0,if_neg e0]
 have fin : ∀ b : Bool,(if b = true then some (valZ x) else some false) = some (valZ x && b):=by intro b;cases b <;> simp
 by_cases e1 : x.f0 = 1
 ·rw [if_pos e1,if_pos e1,fin]
 rw [if_neg e1,if_neg e1]
 by_cases e2 : x.f0 = 2
 ·rw [if_pos e2,if_pos e2,fin]
 rw [if_neg e2,if_neg e2]
 by_cases e3 : x.f0 = 3
 ·rw [if_pos e3,if_pos e3,fin]
 rw [if_neg e3,if_neg e3]
 by_cases e4 : x.f0 = 4
 ·rw [if_pos e4,if_pos e4,fin]
 rw [if_neg e4,if_neg e4]
 by_cases e5 : x.f0 = 5
 ·rw [if_pos e5,if_pos e5,fin]
 rw [if_neg e5,if_neg e5]
 by_cases e6 : x.f0 = 6
 ·rw [if_pos e6,if_pos e6]
  by_cases e : x.f1 = 0 <;> simp [e]
 rw [if_neg e6,if_neg e6];simp
theorem spec_form_at (l : List S70) (p s t : Int) (hp : 0 ≤ p ∧ p ≤ 1000) (hq : 0 ≤ s ∧ s ≤ 1000) (ht : 0 ≤ t ∧ t ≤ 1000) (hl : l.length ≤ 2097152) (m : Nat) (hm : ∀ x ∈ l,x.f2.f2.size < m) (hm' : m ≤ 4611686018427387904) (k : Nat) (hk : l.length + m < k) :
  spec_validForm.f k l p s t = some (formOk l p s t):=by
 have key:=loop_s (n:=l.length) (m:=m) (s:=1) (by omega) (fun k i => ∀ n : Int,0 ≤ n → n ≤ i → spec_validForm.l0 k l p s t n (i : Int) = some (fits p s t (l.drop i) n))
  (fun k _ n h0 h1 => by simp only [spec_validForm.l0];rw [if_neg (by omega),List.drop_length];rfl)
  (fun k i h hk ih n h0 h1 => by
   have hx:=hm _ (List.getElem_mem h);simp only [spec_validForm.l0];rw [if_pos (by omega),if_pos (by omega),rd_step h,drop_cons h];generalize l[i] = x at *;simp only [validStep_at' x p s t hp hq ht (by omega) k (by omega),takes_at,bsome];have ht:=takesN_in x;rw [w64 (n:=n - takesN x) (by omega) (by omega),w64 (n:=n - takesN x + 1) (by omega) (by omega),wnext h (by omega)]
   unfold fits
   cases hst : stOk x p s t
   ·simp
   ·simp only [if_true,true_and]
    by_cases hn : n < takesN x
    ·rw [if_pos hn,if_neg (by omega)]
    ·rw [if_neg hn,if_pos (by omega)];exact ih _ (by omega) (by omega)) l.length 0 k (by omega) (by omega) (by omega) 0 (by omega) (by omega)
 unfold spec_validForm.f formOk
 by_cases h : (l.length : Int) > 9
 ·rw [if_pos h,show decide (l.length ≤ 9) = false from decide_eq_false (by omega),Bool.and_false]
 ·rw [if_neg h,show decide (l.length ≤ 9) = true from decide_eq_true (by omega),Bool.and_true];exact key
theorem impl_form_at (l : List S70) (p s t : Int) (hp : 0 ≤ p ∧ p ≤ 1000) (hq : 0 ≤ s ∧ s ≤ 1000) (ht : 0 ≤ t ∧ t ≤ 1000) (hl : l.length ≤ 2097152) (m : Nat) (hm : ∀ x ∈ l,x.f2.f2.size < m) (hm' : m ≤ 4611686018427387904) (k : Nat) (hk : l.length * 2 + m < k) :
  impl_formFits.f k l p s t = some (formOk l p s t):=by
 have key:=loop_s (n:=l.length) (m:=m) (s:=2) (by omega) (fun k i => ∀ n : Int,0 ≤ n → n ≤ i → impl_formFits.l0 k l p s t n l (l.length : Int) (i : Int) = some (fits p s t (l.drop i) n && decide (l.length ≤ 9)))
  (fun k _ n h0 h1 => by
   simp only [impl_formFits.l0];rw [if_neg (by omega),List.drop_length]
   unfold fits
   by_cases e : n = 1
   ·rw [if_pos e,e];simp;omega
   ·rw [if_neg e];simp [e])
  (fun k i h hk ih n h0 h1 => by
   have hx:=hm _ (List.getElem_mem h);simp only [impl_formFits.l0];rw [if_pos (by omega),if_pos (by omega),if_pos (by omega),rd_step h,drop_cons h];generalize l[i] = x at *;simp only [impl_formFits.j1,within_at,impl_valOk_at _ _ _ (show x.f2.f2.size ≤ 4611686018427387904 by omega) k (by omega),bsome,wnext h (show l.length ≤ 4611686018427387904 by omega)];rw [w64 (n:=p - 1) (by omega) (by omega),w64 (n:=s - 1) (by omega) (by omega),w64 (n:=t - 1) (by omega) (by omega),w64 (n:=n + (1 - 0)) (by omega) (by omega),w64 (n:=n + (1 - 2)) (by omega) (by omega),w64 (n:=n + (1 - 3)) (by omega) (by omega)]
   have hz : (!(x.f2.f0 == 0) || (!(x.f2.f1 == 0) || (!(x.f2.f2.toList == ([] : List UInt8))))) = !valZ x:=by unfold valZ;rw [Bool.not_and,Bool.not_and]
   rw [hz]
   have step : ∀ (b : Bool) (c : Int),takesN x = c → (stOk x p s t = b) → (if b = true then (if n < c then some false else impl_formFits.l0 k l p s t (n + (1 - c)) l (l.length : Int) ((i + 1 : Nat) : Int)) else some false) = some (fits p s t (x :: l.drop (i + 1)) n && decide (l.length ≤ 9)):=by
    intro b c hc hb
    subst hc;subst hb;have ht:=takesN_in x
    unfold fits
    cases hst : stOk x p s t
    ·simp
    ·simp only [if_true,true_and]
     by_cases hn : n < takesN x
     ·rw [if_pos hn,if_neg (by omega)];simp
     ·rw [if_neg hn,if_pos (by omega),show n + (1 - takesN x) = n - takesN x + 1 by omega];exact ih _ (by omega) (by omega)
   by_cases e0 : x.f0 = 0
   ·rw [if_pos e0,if_neg (by simp),if_pos e0]
    rw [← step (decide (x.f1 = 0) && vOk x.f2.f0 x.f2.f1 x.f2.f2) 0 (by unfold takesN;rw [if_neg (by omega),if_neg (by omega)]) (by unfold stOk;rw [if_pos e0])]
    by_cases e : x.f1 = 0 <;> simp [e]
   rw [if_neg e0]
   cases hv : valZ x with
   | false =>
    rw [if_pos (show (!false) = true from rfl)]
    have : stOk x p s t = false:=by unfold stOk;rw [if_neg e0,hv];rfl
    rw [← step false (takesN x) rfl this];simp
   | true =>
    rw [if_neg (by simp),if_neg e0]
    have hst : stOk x p s t = numOk x p s t:=by unfold stOk;rw [if_neg e0,hv];rfl
    by_cases e1 : x.f0 = 1
    ·rw [if_pos e1];exact step _ 0 (by unfold takesN;rw [if_neg (by omega),if_neg (by omega)]) (by rw [hst];unfold numOk;rw [if_pos e1])
    rw [if_neg e1]
    by_cases e2 : x.f0 = 2
    ·rw [if_pos e2];exact step _ 0 (by unfold takesN;rw [if_neg (by omega),if_neg (by omega)]) (by rw [hst];unfold numOk;rw [if_neg e1,if_pos e2])
    rw [if_neg e2]
    by_cases e3 : x.f0 = 3
    ·rw [if_pos e3];exact step _ 0 (by unfold takesN;rw [if_neg (by omega),if_neg (by omega)]) (by rw [hst];unfold numOk;rw [if_neg e1,if_neg e2,if_pos e3])
    rw [if_neg e3]
    by_cases e4 : x.f0 = 4
    ·rw [if_pos e4];exact step _ 0 (by unfold takesN;rw [if_neg (by omega),if_neg (by omega)]) (by rw [hst];unfold numOk;rw [if_neg e1,if_neg e2,if_neg e3,if_pos e4])
    rw [if_neg e4]
    by_cases e5 : x.f0 = 5
    ·rw [if_pos e5];exact step _ 2 (by unfold takesN;rw [if_pos e5]) (by rw [hst];unfold numOk;rw [if_neg e1,if_neg e2,if_neg e3,if_neg e4,if_pos e5])
    rw [if_neg e5]
    by_cases e6 : x.f0 = 6
    ·rw [if_pos e6,← step (decide (x.f1 = 0)) 3 (by unfold takesN;rw [if_neg e5,if_pos e6]) (by rw [hst];unfold numOk;rw [if_neg e1,if_neg e2,if_neg e3,if_neg e4,if_neg e5,if_pos e6])]
     by_cases e : x.f1 = 0 <;> simp [e]
    rw [if_neg e6]
    rw [← step false (takesN x) rfl (by rw [hst];unfold numOk;rw [if_neg e1,if_neg e2,if_neg e3,if_neg e4,if_neg e5,if_neg e6])];simp) l.length 0 k (by omega) (by omega) (by omega) 0 (by omega) (by omega)
 unfold impl_formFits.f formOk
 exact key
def Src (l : List Int) (a f : Int) : Prop:=(∀ x ∈ l,0 ≤ x ∧ x ≤ 255) ∧ 0 ≤ a ∧ 0 ≤ f ∧ a + 2 * f ≤ 8000
theorem rd_in {l : List Int} {i : Int} (h0 : 0 ≤ i) (h1 : i < (l.length : Int)) : rd l i ∈ l:=by
 have h : i.toNat < l.length:=by omega
 unfold rd
 rw [List.getD_eq_getElem?_getD,List.getElem?_eq_getElem h]
 exact List.getElem_mem h
theorem pick_tells {l : List Int} {a f : Int} (n : Int) (h : Src l a f) (k : Nat) (hk : 0 < k) :
  ∃ v a' f',spec_source_pick.f k l a f n = some (v,a',f') ∧ 0 ≤ v ∧ (v < n ∨ v = 0) ∧ Src l a' f':=by
 obtain ⟨hb,ha,hf,haf⟩:=h;obtain ⟨k,rfl⟩ : ∃ m,k = m + 1:=⟨k - 1,by omega⟩
 have stop : ∃ v a' f',spec_source_pick.j0 (k + 1) n true l a f = some (v,a',f') ∧ 0 ≤ v ∧ (v < n ∨ v = 0) ∧ Src l a' f':=
  ⟨0,a,f,by simp [spec_source_pick.j0],by omega,Or.inr rfl,hb,ha,hf,haf⟩
 unfold spec_source_pick.f
 by_cases h1 : n ≤ 1
 ·rw [if_pos h1];exact stop
 rw [if_neg h1]
 by_cases h2 : f ≤ 0
 ·rw [if_pos h2];exact stop
 rw [if_neg h2]
 by_cases h3 : (l.length : Int) = 0
 ·rw [show ((l.length : Int) == 0) = true from beq_iff_eq.mpr h3];exact stop
 rw [show ((l.length : Int) == 0) = false from beq_eq_false_iff_ne.mpr h3]
 have hl : 0 < (l.length : Int):=by omega
 have m0 : 0 ≤ Int.tmod a (l.length : Int):=Int.tmod_nonneg _ ha;have m1 : Int.tmod a (l.length : Int) < (l.length : Int):=Int.tmod_lt_of_pos _ hl;have q0 : 0 ≤ Int.tdiv a (l.length : Int):=Int.tdiv_nonneg ha (by omega)
 have q1 : Int.tdiv a (l.length : Int) ≤ 8000:=by
  rw [Int.tdiv_eq_ediv_of_nonneg ha];have:=Int.ediv_le_self (l.length : Int) ha
  omega
 have v0:=hb _ (rd_in m0 m1);simp only [spec_source_pick.j0];rw [if_neg (by simp),if_neg h3,if_pos m0,if_pos m1];generalize Int.tdiv a (l.length : Int) = q at *;generalize rd l (Int.tmod a (l.length : Int)) = x at *
 rw [w64 (n:=a + 1) (by omega) (by omega),w64 (n:=f - 1) (by omega) (by omega),w64 (n:=x) (by omega) (by omega),
  w64 (n:=q) (by omega) (by omega),w64 (n:=q * 31) (by omega) (by omega),w64 (n:=x + q * 31) (by omega) (by omega)]
 by_cases h4 : n > 256
 ·have m0' : 0 ≤ Int.tmod (a + 1) (l.length : Int):=Int.tmod_nonneg _ (by omega)
  have m1' : Int.tmod (a + 1) (l.length : Int) < (l.length : Int):=Int.tmod_lt_of_pos _ hl;have v1:=hb _ (rd_in m0' m1');generalize rd l (Int.tmod (a + 1) (l.length : Int)) = y at *
  rw [if_pos h4,if_pos m0',if_pos m1',if_neg (by omega),w64 (n:=y) (by omega) (by omega),
   w64 (n:=(x + q * 31) * 256) (by omega) (by omega),w64 (n:=(x + q * 31) * 256 + y) (by omega) (by omega),
   w64 (n:=a + 1 + 1) (by omega) (by omega)]
  exact ⟨_,_,_,rfl,Int.tmod_nonneg _ (by omega),Or.inl (Int.tmod_lt_of_pos _ (by omega)),hb,by omega,by omega,by omega⟩
 ·rw [if_neg h4,if_neg (by omega)]
  exact ⟨_,_,_,rfl,Int.tmod_nonneg _ (by omega),Or.inl (Int.tmod_lt_of_pos _ (by omega)),hb,by omega,by omega,by omega⟩
theorem src_new {l : List Int} (h : ∀ x ∈ l,(Lit.int .u8 x).wf = true) : Src l 0 4000:=by
 refine ⟨fun x hx => ?_,by omega,by omega,by omega⟩
 have:=h x hx;simp only [Lit.wf,IntKind.min,IntKind.max,IntKind.signed,IntKind.bits,Bool.and_eq_true,decide_eq_true_eq] at this
 simp at this
 omega
theorem one_tells {l : List Int} {a f : Int} (l1 : List Int) (hl : l1 ≠ []) (h : Src l a f) (k : Nat) (hk : 0 < k) :
  ∃ v a' f',spec_source_one.f k l a f l1 = some (v,a',f') ∧ v ∈ l1 ∧ Src l a' f':=by
 obtain ⟨v,a',f',he,h0,h1,hs⟩:=pick_tells (l1.length : Int) h k hk
 have hp : 0 < (l1.length : Int):=by
  have:=List.length_pos_iff.mpr hl
  omega
 have hv : v < (l1.length : Int):=by omega
 refine ⟨rd l1 v,a',f',?_,rd_in h0 hv,hs⟩
 unfold spec_source_one.f
 rw [he];simp only [Option.bind_some];rw [if_pos h0,if_pos hv]
theorem rarely_tells {l : List Int} {a f : Int} (h : Src l a f) (k : Nat) (hk : 0 < k) : ∃ v a' f',spec_source_rarely.f k l a f = some (v,a',f') ∧ Src l a' f':=by
 obtain ⟨v,a',f',he,-,-,hs⟩:=pick_tells 40 h k hk
 refine ⟨(v == 1),a',f',?_,hs⟩
 unfold spec_source_rarely.f
 rw [he,bsome]
theorem rdOf_in {α : Type} {d : α} {l : List α} {i : Int} (h0 : 0 ≤ i) (h1 : i < (l.length : Int)) : rdOf d l i ∈ l:=by
 have h : i.toNat < l.length:=by omega
 unfold rdOf
 rw [List.getD_eq_getElem?_getD,List.getElem?_eq_getElem h]
 exact List.getElem_mem h
theorem size_append (a b : ByteArray) : (a ++ b).size = a.size + b.size:=ByteArray.size_append
theorem text_l {l : List Int} : ∀ (n k : Nat) (acc : ByteArray) (a f : Int),Src l a f → n + 1 < k → acc.size + 4 * n ≤ 1000 → ∃ r a' f',spec_source_text.l0 k acc (n : Int) l a f = some (r,a',f') ∧ r.size ≤ acc.size + 4 * n + 1 ∧ Src l a' f':=by
 intro n
 induction n with
 | zero =>
  intro k acc a f h hk hn
  obtain ⟨k,rfl⟩ : ∃ m,k = m + 1:=⟨k - 1,by omega⟩;simp only [spec_source_text.l0];rw [if_neg (by omega)];obtain ⟨v,a1,f1,e1,s1⟩:=rarely_tells h k (by omega);rw [e1,bsome]
  cases v with
  | true =>
   rw [if_pos rfl,if_pos (by omega)]
   exact ⟨_,_,_,rfl,by rw [size_append];exact Nat.le_refl _,s1⟩
  | false =>
   rw [if_neg (by simp)]
   exact ⟨_,_,_,rfl,by omega,s1⟩
 | succ n ih =>
  intro k acc a f h hk hn
  obtain ⟨k,rfl⟩ : ∃ m,k = m + 1:=⟨k - 1,by omega⟩;simp only [spec_source_text.l0];rw [if_pos (by omega),bsome];obtain ⟨u1,a1,f1,e1,p1,q1,s1⟩:=pick_tells 6 h k (by omega);rw [e1,bsome];generalize hy : ([(⟨#[97]⟩ : ByteArray),(⟨#[98]⟩ : ByteArray),(⟨#[122,57]⟩ : ByteArray),(⟨#[32]⟩ : ByteArray),(⟨#[48]⟩ : ByteArray),(⟨#[108,111,110,103]⟩ : ByteArray)] : List ByteArray) = y
  have hyl : y.length = 6:=by subst hy;rfl
  have hys : ∀ b ∈ y,b.size ≤ 4:=by
   subst hy
   intro b hb
   simp only [List.mem_cons,List.not_mem_nil,or_false] at hb
   rcases hb with rfl | rfl | rfl | rfl | rfl | rfl <;> decide
  have hu : u1 < (y.length : Int):=by omega
  have hb:=hys _ (rdOf_in (d:=ByteArray.empty) p1 hu);rw [if_pos p1,if_pos hu];generalize rdOf ByteArray.empty y u1 = b at *;rw [if_pos (by omega),w64 (by omega) (by omega),show ((n + 1 : Nat) : Int) - 1 = (n : Int) by omega];obtain ⟨r,a',f',er,hr,sr⟩:=ih k (acc ++ b) a1 f1 s1 (by omega) (by rw [size_append];omega)
  exact ⟨r,a',f',er,by rw [size_append] at hr;omega,sr⟩
theorem text_tells {l : List Int} {a f : Int} (h : Src l a f) (k : Nat) (hk : 10 < k) : ∃ r a' f',spec_source_text.f k l a f = some (r,a',f') ∧ r.size ≤ 20 ∧ Src l a' f':=by
 unfold spec_source_text.f
 obtain ⟨v1,a1,f1,e1,p1,q1,s1⟩:=pick_tells 4 h k (by omega);rw [e1,bsome];obtain ⟨r,a3,f3,e3,h3,s3⟩:=text_l v1.toNat k (⟨#[]⟩ : ByteArray) a1 f1 s1 (by omega) (by show 0 + 4 * v1.toNat ≤ 1000;omega);rw [show ((v1.toNat : Nat) : Int) = v1 by omega] at e3
 refine ⟨r,a3,f3,e3,?_,s3⟩
 have h0 : (⟨#[]⟩ : ByteArray).size = 0:=rfl
 omega
theorem value_tells {l : List Int} {a f : Int} (h : Src l a f) (k : Nat) (hk : 10 < k) : ∃ x y z a' f',spec_source_value.f k l a f = some (x,y,z,a',f') ∧ z.size ≤ 20 ∧ (-1001 ≤ y ∧ y ≤ 1001) ∧ (0 ≤ x ∧ x ≤ 2) ∧ Src l a' f':=by
 unfold spec_source_value.f
 obtain ⟨v1,a1,f1,e1,p1,q1,s1⟩:=pick_tells 6 h k (by omega);rw [e1,bsome]
 have h0 : (⟨#[]⟩ : ByteArray).size ≤ 20:=by decide
 by_cases c0 : v1 = 0
 ·rw [if_pos c0];exact ⟨_,_,_,_,_,rfl,h0,by omega,by omega,s1⟩
 rw [if_neg c0]
 by_cases c1 : v1 = 1
 ·rw [if_pos c1]
  obtain ⟨r,a2,f2,e2,h2,s2⟩:=text_tells s1 k hk;rw [e2,bsome];exact ⟨_,_,_,_,_,rfl,h2,by omega,by omega,s2⟩
 rw [if_neg c1]
 by_cases c2 : v1 = 2
 ·rw [if_pos c2]
  obtain ⟨v2,a2,f2,e2,m2,s2⟩:=one_tells [0,1,-1,1000,-1000,500,1001] (by simp) s1 k (by omega);rw [e2,bsome]
  refine ⟨_,_,_,_,_,rfl,h0,?_,by omega,s2⟩
  simp at m2;omega
 rw [if_neg c2];obtain ⟨v2,a2,f2,e2,p2,q2,s2⟩:=pick_tells 6 s1 k (by omega);rw [e2,bsome]
 refine ⟨_,_,_,_,_,rfl,h0,?_,by omega,s2⟩
 rw [w64 (by omega) (by omega)];omega
theorem good_tells {l : List Int} {a f : Int} (h : Src l a f) (k : Nat) (hk : 30 < k) : ∃ x y z a' f',spec_source_good.f k l a f = some (x,y,z,a',f') ∧ z.size ≤ 20 ∧ (-1001 ≤ y ∧ y ≤ 1001) ∧ (0 ≤ x ∧ x ≤ 2) ∧ Src l a' f':=by
 unfold spec_source_good.f
 obtain ⟨x,y,z,a1,f1,e1,h1,h2,h3,s1⟩:=value_tells h k (by omega);rw [e1,bsome,spec_val_at x y z (by omega) k (by omega),bsome]
 have h0 : (⟨#[]⟩ : ByteArray).size ≤ 20:=by decide
 split
 ·exact ⟨_,_,_,_,_,rfl,h1,h2,h3,s1⟩
 ·exact ⟨_,_,_,_,_,rfl,h0,by omega,by omega,s1⟩
theorem leaf_tells {l : List Int} {a f : Int} (p s t : Int) (h : Src l a f) (k : Nat) (hk : 31 < k) : ∃ c d x y z a' f',spec_source_leaf.f k l a f p s t = some (c,d,x,y,z,a',f') ∧ z.size ≤ 20 ∧ Src l a' f':=by
 have h0 : (⟨#[]⟩ : ByteArray).size ≤ 20:=by decide
 have hj : ∀ (k : Nat) (a f c : Int) (b : Bool),31 < k → Src l a f → ∃ e d x y z a' f',spec_source_leaf.j0 k p s t c b l a f = some (e,d,x,y,z,a',f') ∧ z.size ≤ 20 ∧ Src l a' f':=by
  intro k a f c b hk h
  obtain ⟨k,rfl⟩ : ∃ m,k = m + 1:=⟨k - 1,by omega⟩;obtain ⟨x,y,z,a1,f1,e1,g1,-,-,s1⟩:=good_tells h k (by omega);simp only [spec_source_leaf.j0]
  cases b with
  | true =>
   rw [if_pos rfl]
   by_cases c0 : s > 0
   ·obtain ⟨v,a2,f2,e2,-,-,s2⟩:=pick_tells s h k (by omega)
    rw [if_pos c0,e2,bsome];exact ⟨_,_,_,_,_,_,_,rfl,h0,s2⟩
   ·rw [if_neg c0,e1,bsome];exact ⟨_,_,_,_,_,_,_,rfl,g1,s1⟩
  | false =>
   rw [if_neg (by simp)]
   by_cases c2 : c = 2
   ·rw [if_pos c2]
    by_cases c0 : p > 0
    ·obtain ⟨v,a2,f2,e2,-,-,s2⟩:=pick_tells p h k (by omega)
     rw [if_pos c0,e2,bsome];exact ⟨_,_,_,_,_,_,_,rfl,h0,s2⟩
    ·rw [if_neg c0,e1,bsome];exact ⟨_,_,_,_,_,_,_,rfl,g1,s1⟩
   rw [if_neg c2]
   by_cases c3 : c = 3
   ·rw [if_pos c3]
    by_cases c0 : t > 0
    ·obtain ⟨v,a2,f2,e2,-,-,s2⟩:=pick_tells t h k (by omega)
     rw [if_pos c0,e2,bsome];exact ⟨_,_,_,_,_,_,_,rfl,h0,s2⟩
    ·rw [if_neg c0,e1,bsome];exact ⟨_,_,_,_,_,_,_,rfl,g1,s1⟩
   rw [if_neg c3]
   by_cases c4 : c = 4
   ·rw [if_pos c4]
    obtain ⟨v,a2,f2,e2,-,-,s2⟩:=pick_tells 2 h k (by omega);rw [e2,bsome];exact ⟨_,_,_,_,_,_,_,rfl,h0,s2⟩
   ·rw [if_neg c4,e1,bsome];exact ⟨_,_,_,_,_,_,_,rfl,g1,s1⟩
 unfold spec_source_leaf.f
 obtain ⟨v,a1,f1,e1,-,-,s1⟩:=pick_tells 7 h k (by omega);rw [e1,bsome]
 split
 ·exact hj k _ _ _ _ hk s1
 ·exact hj k _ _ _ _ hk s1
def Fm (l : List S70) (n : Nat) : Prop:=1 ≤ l.length ∧ l.length ≤ n ∧ ∀ x ∈ l,x.f2.f2.size ≤ 20
theorem form_tells {l : List Int} (p s t : Int) : ∀ (d : Nat) (n : Int) (k : Nat) (a f : Int),n ≤ d → d ≤ 100 → 3 * d + 40 < k → Src l a f → ∃ r a' f',spec_source_form.f k l a f p s t n = some (r,a',f') ∧ Fm r (3 * d + 1) ∧ Src l a' f':=by
 have leaf : ∀ (n : Int) (k : Nat) (a f : Int) (m : Nat),1 ≤ m → 36 < k → Src l a f → ∃ r a' f',spec_source_form.j0 k p s t n true l a f = some (r,a',f') ∧ Fm r m ∧ Src l a' f':=by
  intro n k a f m hm hk h
  obtain ⟨k,rfl⟩ : ∃ m,k = m + 1:=⟨k - 1,by omega⟩;simp only [spec_source_form.j0];obtain ⟨c,e,x,y,z,a1,f1,e1,g1,s1⟩:=leaf_tells p s t h k (by omega);rw [if_pos trivial,e1,bsome]
  refine ⟨_,_,_,rfl,⟨by simp,by simpa using hm,?_⟩,s1⟩
  intro q hq
  rw [List.mem_singleton.1 hq];exact g1
 have small : ∀ (n : Int) (k : Nat) (a f : Int) (m : Nat),n < 3 → 1 ≤ m → 40 < k → Src l a f → ∃ r a' f',spec_source_form.f k l a f p s t n = some (r,a',f') ∧ Fm r m ∧ Src l a' f':=by
  intro n k a f m hn hm hk h
  obtain ⟨k,rfl⟩ : ∃ m,k = m + 1:=⟨k - 1,by omega⟩;simp only [spec_source_form.f];rw [if_pos hn]
  exact leaf n k a f m hm (by omega) h
 have cat : ∀ (x y : List S70) (m n : Nat),Fm x m → Fm y n → Fm (x ++ y) (m + n):=by
  rintro x y m n ⟨x1,x2,x3⟩ ⟨y1,y2,y3⟩
  refine ⟨by simp;omega,by simp;omega,fun q hq => ?_⟩
  rcases List.mem_append.1 hq with hq | hq
  ·exact x3 q hq
  ·exact y3 q hq
 have one : ∀ (c e : Int),Fm [(⟨c,e,(⟨0,0,(⟨#[]⟩ : ByteArray)⟩ : S67)⟩ : S70)] 1:=by
  intro c e
  refine ⟨by simp,by simp,fun q hq => ?_⟩
  rw [List.mem_singleton.1 hq];show (⟨#[]⟩ : ByteArray).size ≤ 20;decide
 intro d
 induction d using Nat.strongRecOn with
 | ind d ih =>
  intro n k a f hn hd hk h
  by_cases h3 : n < 3
  ·exact small n k a f _ h3 (by omega) (by omega) h
  obtain ⟨k,rfl⟩ : ∃ m,k = m + 3:=⟨k - 3,by omega⟩
  have hd3 : 3 ≤ d:=by omega
  obtain ⟨v,a1,f1,e1,-,-,s1⟩:=pick_tells 2 h (k + 2) (by omega);rw [show k + 3 = (k + 2) + 1 from rfl];simp only [spec_source_form.f];rw [if_neg h3,e1,bsome]
  cases hv : (v == 0) with
  | true => exact leaf n (k + 2) a1 f1 _ (by omega) (by omega) s1
  | false =>
   have j1 : ∀ (b : Bool) (a f : Int),Src l a f → (b = true → 3 < n) → ∃ r a' f',spec_source_form.j1 (k + 1) p s t n b l a f = some (r,a',f') ∧ Fm r (3 * d + 1) ∧ Src l a' f':=by
    intro b a f h hb
    simp only [spec_source_form.j1];obtain ⟨r1,a1,f1,e1,m1,s1⟩:=small 1 k a f 1 (by omega) (by omega) (by omega) h
    cases b with
    | true =>
     have:=hb rfl;rw [if_pos rfl,e1,bsome];obtain ⟨r2,a2,f2,e2,m2,s2⟩:=small 1 k a1 f1 1 (by omega) (by omega) (by omega) s1;rw [e2,bsome,w64 (by omega) (by omega)];obtain ⟨r3,a3,f3,e3,m3,s3⟩:=ih (d - 3) (by omega) (n - 3) k a2 f2 (by omega) (by omega) (by omega) s2;rw [e3,bsome];have c1:=cat _ _ _ _ m1 m2;have c2:=cat _ _ _ _ c1 m3;have c3:=cat _ _ _ _ c2 (one 6 0);have l1:=m1.2.1;have l2:=m2.2.1;have l3:=m3.2.1;have l4:=c1.2.1;have l5:=c2.2.1;rw [if_pos (by show r1.length + r2.length < 2932031007402;omega),bsome,if_pos (by show (r1 ++ r2).length + r3.length < 2932031007402;omega),bsome,if_pos (by show (r1 ++ r2 ++ r3).length < 2932031007402;omega)];have c4 : Fm _ (3 * d + 1):=⟨c3.1,by have:=c3.2.1;omega,c3.2.2⟩
     exact ⟨_,_,_,rfl,c4,s3⟩
    | false =>
     rw [if_neg (by simp),e1,bsome,w64 (by omega) (by omega)];obtain ⟨r3,a3,f3,e3,m3,s3⟩:=ih (d - 2) (by omega) (n - 2) k a1 f1 (by omega) (by omega) (by omega) s1;rw [e3,bsome];have c2:=cat _ _ _ _ m1 m3;have l1:=m1.2.1;have l3:=m3.2.1;have l5:=c2.2.1;rw [if_pos (by show r1.length + r3.length < 2932031007402;omega),bsome];obtain ⟨v,a4,f4,e4,-,-,s4⟩:=pick_tells 7 s3 k (by omega);rw [e4,bsome,if_pos (by show (r1 ++ r3).length < 2932031007402;omega)];have c3:=cat _ _ _ _ c2 (one 5 v);have c4 : Fm _ (3 * d + 1):=⟨c3.1,by have:=c3.2.1;omega,c3.2.2⟩
     exact ⟨_,_,_,rfl,c4,s4⟩
   rw [show k + 2 = (k + 1) + 1 from rfl];simp only [spec_source_form.j0];rw [if_neg (by simp)]
   by_cases h4 : n > 3
   ·rw [if_pos h4]
    obtain ⟨u,a2,f2,e2,-,-,s2⟩:=pick_tells 4 s1 (k + 1) (by omega);rw [e2,bsome]
    exact j1 _ _ _ s2 (fun _ => h4)
   ·rw [if_neg h4]
    exact j1 false _ _ s1 (fun hb => by cases hb)
theorem Ev.pos {α : Type} {c : Prop} [Decidable c] {A B : Nat → Option α} {v : α} (h : c) (g : Ev A v) : Ev (fun k => if c then A k else B k) v:=by
 have e : (fun k => if c then A k else B k) = A:=by funext k;exact if_pos h
 rw [e];exact g
theorem Ev.neg {α : Type} {c : Prop} [Decidable c] {A B : Nat → Option α} {v : α} (h : ¬ c) (g : Ev B v) : Ev (fun k => if c then A k else B k) v:=by
 have e : (fun k => if c then A k else B k) = B:=by funext k;exact if_neg h
 rw [e];exact g
def FS (l : List S70) : Prop:=l.length ≤ 400 ∧ ∀ x ∈ l,x.f2.f2.size ≤ 20
inductive TS : S46 → Prop
 | mk (t : S46) (h2 : t.f2.length ≤ 10) (h3 : t.f3.length ≤ 10) (h3' : ∀ f ∈ t.f3,FS f) (h4 : FS t.f4) (h5 : t.f5.length ≤ 10) (h6 : t.f6.length ≤ 10) (h6' : ∀ x ∈ t.f6,TS x) : TS t
def CS (c : S48) : Prop:=(-1 ≤ c.f0 ∧ c.f0 ≤ 4) ∧ c.f1.length ≤ 10 ∧ (∀ x ∈ c.f1,x.f2.size ≤ 20) ∧ c.f2.length ≤ 10 ∧ (∀ a ∈ c.f2,a.length ≤ 10 ∧ ∀ s ∈ a,FS s.f1) ∧ TS c.f3
theorem FS_nil : FS []:=⟨by simp,by simp⟩
theorem FS_num (n : Int) : FS [(⟨0,0,(⟨1,n,(⟨#[]⟩ : ByteArray)⟩ : S67)⟩ : S70)]:=⟨by simp,fun x hx => by rw [List.mem_singleton.1 hx];show (⟨#[]⟩ : ByteArray).size ≤ 20;decide⟩
theorem pick_ev {l : List Int} {a f : Int} (n : Int) (h : Src l a f) : ∃ v a' f',Ev (fun k => spec_source_pick.f k l a f n) (v,a',f') ∧ 0 ≤ v ∧ (v < n ∨ v = 0) ∧ Src l a' f':=by
 obtain ⟨v,a',f',e,h0,h1,s⟩:=pick_tells n h 1 (by omega)
 exact ⟨v,a',f',Ev.of_mono (fun k => spec_source_pick.mono l a f n k) e,h0,h1,s⟩
theorem form_ev {l : List Int} {a f : Int} (p s t n : Int) (hn : n ≤ 100) (h : Src l a f) : ∃ r a' f',Ev (fun k => spec_source_form.f k l a f p s t n) (r,a',f') ∧ FS r ∧ Src l a' f':=by
 obtain ⟨r,a',f',e,⟨-,h1,h2⟩,s1⟩:=form_tells p s t 100 n 1000 a f (by omega) (by omega) (by omega) h
 exact ⟨r,a',f',Ev.of_mono (fun k => spec_source_form.mono l a f p s t n k) e,⟨by omega,h2⟩,s1⟩
theorem formOf_ev {l : List Int} {a f : Int} (p : Int) (st : List S67) (ac : List (List S57)) (b0 b1 : Int) (b2 : List Int) (b3 : List (List S70)) (b4 : List S70) (b5 : List S76) (b6 : List S46) (t n : Int) (hn : n ≤ 100) (h : Src l a f) :
  ∃ r a' f',Ev (fun k => spec_source_formOf.f k l a f p st ac b0 b1 b2 b3 b4 b5 b6 t n) (r,a',f') ∧ FS r ∧ Src l a' f':=by
 obtain ⟨r,a',f',e,hr,s⟩:=form_ev p (st.length : Int) t n hn h
 refine ⟨r,a',f',?_,hr,s⟩
 simp only [spec_source_formOf.f]
 exact Ev.bind e (Ev.pure _)
theorem small_ev {l : List Int} {a f : Int} (p s t : Int) (h : Src l a f) : ∃ r a' f',Ev (fun k => spec_source_small.f k l a f p s t) (r,a',f') ∧ FS r ∧ Src l a' f':=by
 obtain ⟨v,a1,f1,e1,-,-,s1⟩:=pick_ev 3 h
 by_cases c : v > 0
 ·obtain ⟨w,a2,f2,e2,-,-,s2⟩:=pick_ev 4 s1
  refine ⟨_,a2,f2,?_,FS_num w,s2⟩
  simp only [spec_source_small.f]
  exact Ev.bind e1 (Ev.pos c (Ev.bind e2 (Ev.pure _)))
 ·obtain ⟨w,a2,f2,e2,g,s2⟩:=form_ev p s t 3 (by omega) s1
  refine ⟨w,a2,f2,?_,g,s2⟩
  simp only [spec_source_small.f]
  exact Ev.bind e1 (Ev.neg c (Ev.bind e2 (Ev.pure _)))
theorem good_ev {l : List Int} {a f : Int} (h : Src l a f) : ∃ x y z a' f',Ev (fun k => spec_source_good.f k l a f) (x,y,z,a',f') ∧ z.size ≤ 20 ∧ Src l a' f':=by
 obtain ⟨x,y,z,a',f',e,h1,-,-,s⟩:=good_tells h 31 (by omega)
 exact ⟨x,y,z,a',f',Ev.of_mono (fun k => spec_source_good.mono l a f k) e,h1,s⟩
theorem goods_l {l : List Int} : ∀ (n : Nat) (acc : List S67) (a f : Int),Src l a f → acc.length + n ≤ 10 → (∀ x ∈ acc,x.f2.size ≤ 20) → ∃ r a' f',Ev (fun k => spec_source_goods.l0 k (n : Int) acc l a f) (r,a',f') ∧ r.length ≤ acc.length + n ∧ (∀ x ∈ r,x.f2.size ≤ 20) ∧ Src l a' f':=by
 intro n
 induction n with
 | zero =>
  intro acc a f h hn hx
  refine ⟨acc,a,f,Ev.succ ?_,by omega,hx,h⟩
  simp only [spec_source_goods.l0]
  exact Ev.neg (by omega) (Ev.pure _)
 | succ n ih =>
  intro acc a f h hn hx
  obtain ⟨x,y,z,a1,f1,e1,g1,s1⟩:=good_ev h;obtain ⟨r,a2,f2,e2,g2,g3,s2⟩:=ih (acc ++ [⟨x,y,z⟩]) a1 f1 s1 (by simp;omega) (by intro q hq;rcases List.mem_append.1 hq with hq | hq;exact hx q hq;rw [List.mem_singleton.1 hq];exact g1)
  refine ⟨r,a2,f2,Ev.succ ?_,by simp at g2;omega,g3,s2⟩
  simp only [spec_source_goods.l0]
  refine Ev.pos (by omega) (Ev.bind e1 (Ev.pos (by omega) ?_))
  rw [show wrap64 (((n + 1 : Nat) : Int) - 1) = (n : Int) from by rw [w64 (by omega) (by omega)];omega]
  exact e2
theorem goods_ev {l : List Int} {a f : Int} (n : Int) (h0 : 0 ≤ n) (h1 : n ≤ 10) (h : Src l a f) : ∃ r a' f',Ev (fun k => spec_source_goods.f k l a f n) (r,a',f') ∧ (r.length : Int) ≤ n ∧ (∀ x ∈ r,x.f2.size ≤ 20) ∧ Src l a' f':=by
 obtain ⟨n,rfl⟩ : ∃ m : Nat,n = m:=⟨n.toNat,by omega⟩;obtain ⟨r,a1,f1,e1,g1,g2,s1⟩:=goods_l n [] a f h (by simp;omega) (by simp)
 refine ⟨r,a1,f1,?_,by simp at g1;omega,g2,s1⟩
 simp only [spec_source_goods.f]
 exact e1
def allFrom (p : Nat → Bool) : Nat → Nat → Bool
 | 0,_ => true
 | d + 1,i => p i && allFrom p d (i + 1)
theorem allFrom_iff (p : Nat → Bool) : ∀ d i,allFrom p d i = true ↔ ∀ j,i ≤ j → j < i + d → p j = true:=by
 intro d
 induction d with
 | zero => intro i;simp only [allFrom,true_iff];intro j h1 h2;omega
 | succ d ih =>
  intro i
  simp only [allFrom,Bool.and_eq_true,ih]
  constructor
  ·rintro ⟨h1,h2⟩ j h3 h4
   by_cases e : j = i
   ·rw [e];exact h1
   ·exact h2 j (by omega) (by omega)
  ·intro h
   exact ⟨h i (by omega) (by omega),fun j h1 h2 => h j (by omega) (by omega)⟩
theorem allFrom_all {p : Nat → Bool} {n : Nat} (h : allFrom p n 0 = true) : ∀ i,i < n → p i = true:=fun i hi => (allFrom_iff p n 0).1 h i (by omega) (by omega)
theorem allFrom_and (p q : Nat → Bool) : ∀ d i,allFrom (fun j => p j && q j) d i = (allFrom p d i && allFrom q d i):=by
 intro d
 induction d with
 | zero => intro i;rfl
 | succ d ih =>
  intro i
  simp only [allFrom,ih]
  cases p i <;> cases q i <;> simp
theorem Ev.ix {n : Nat} {F : Nat → Nat → Option Bool} {p : Nat → Bool} {r : Bool} (last : (∀ i,i < n → p i = true) → Ev (fun k => F k n) r)
  (step : ∀ i,i < n → ∀ v,(p i = true → Ev (fun k => F k (i + 1)) v) → Ev (fun k => F k i) (p i && v)) : Ev (fun k => F k 0) (allFrom p n 0 && r):=by
 have key : ∀ d i,i + d = n → (∀ j,j < i → p j = true) → Ev (fun k => F k i) (allFrom p d i && r):=by
  intro d
  induction d with
  | zero =>
   intro i hi hp
   obtain rfl : i = n:=by omega
   simp only [allFrom,Bool.true_and]
   exact last hp
  | succ d ih =>
   intro i hi hp
   have:=step i (by omega) (allFrom p d (i + 1) && r) (fun h => ih (i + 1) (by omega) (fun j hj => by
    by_cases e : j = i
    ·rw [e];exact h
    ·exact hp j (by omega)))
   rw [← Bool.and_assoc] at this
   exact this
 exact key n 0 (by omega) (fun j hj => absurd hj (by omega))
theorem Ev.and_bind {G A : Nat → Option Bool} {t v : Bool} (h : Ev G t) (g : t = true → Ev A v) : Ev (fun k => (G k).bind fun b => if b = true then A k else some false) (t && v):=by
 refine Ev.bind h ?_
 cases t with
 | true => exact Ev.pos rfl (by simpa using g rfl)
 | false => exact Ev.neg (by simp) (Ev.pure _)
theorem Ev.and_if {c : Prop} [Decidable c] {A : Nat → Option Bool} {v : Bool} (g : c → Ev A v) : Ev (fun k => if c then A k else some false) (decide c && v):=by
 by_cases h : c
 ·rw [show decide c = true from decide_eq_true h,Bool.true_and];exact Ev.pos h (g h)
 ·rw [show decide c = false from decide_eq_false h,Bool.false_and];exact Ev.neg h (Ev.pure _)
theorem Ev.and_nif {c : Prop} [Decidable c] {A : Nat → Option Bool} {v : Bool} (g : ¬ c → Ev A v) : Ev (fun k => if c then some false else A k) (!decide c && v):=by
 by_cases h : c
 ·rw [show decide c = true from decide_eq_true h,Bool.not_true,Bool.false_and];exact Ev.pos h (Ev.pure _)
 ·rw [show decide c = false from decide_eq_false h,Bool.not_false,Bool.true_and];exact Ev.neg h (g h)
theorem Ev.val {α : Type} {F : Nat → Option α} {u v : α} (h : Ev F u) (e : u = v) : Ev F v:=e ▸ h
theorem within_ev (a b c : Int) : Ev (fun _ => impl_within.f a b c) (decide (b ≤ a ∧ a ≤ c)):=Ev.const fun _ => within_at a b c
theorem inRange_ev (a b c : Int) : Ev (fun _ => spec_inRange.f a b c) (decide (b ≤ a ∧ a ≤ c)):=Ev.const fun _ => inRange_at a b c
theorem form_impl {l : List S70} (h : FS l) (p s t : Int) (hp : 0 ≤ p ∧ p ≤ 3) (hs : 0 ≤ s ∧ s ≤ 3) (ht : 0 ≤ t ∧ t ≤ 4) : Ev (fun k => impl_FormOk.f k l p s t) (formOk l p s t):=by
 simp only [impl_FormOk.f]
 have e1 : Ev (fun k => impl_formFits.f k l p s t) (formOk l p s t):=Ev.of_gt (K:=1000) fun k hk => impl_form_at l p s t (by omega) (by omega) (by omega) (by have:=h.1;omega) 21 (fun x hx => by have:=h.2 x hx;omega) (by omega) k (by have:=h.1;omega)
 refine Ev.val (Ev.and_bind (within_ev p 0 3) (fun _ => Ev.and_bind (within_ev s 0 3) (fun _ => Ev.and_bind (within_ev t 0 4) (fun _ => Ev.bind e1 (Ev.pure _))))) ?_
 simp [hp,hs,ht]
theorem form_spec {l : List S70} (h : FS l) (p s t : Int) (hp : 0 ≤ p ∧ p ≤ 3) (hs : 0 ≤ s ∧ s ≤ 3) (ht : 0 ≤ t ∧ t ≤ 4) : Ev (fun k => spec_validForm.f k l p s t) (formOk l p s t):=
 Ev.of_gt (K:=1000) fun k hk => spec_form_at l p s t (by omega) (by omega) (by omega) (by have:=h.1;omega) 21 (fun x hx => by have:=h.2 x hx;omega) (by omega) k (by have:=h.1;omega)
theorem rdL5_mem {l : List (List S70)} {i : Nat} (h : i < l.length) : rd_L5 l (i : Int) ∈ l:=by
 unfold rd_L5
 rw [List.getD_eq_getElem?_getD,Int.toNat_natCast,List.getElem?_eq_getElem h]
 exact List.getElem_mem h
theorem rd46_mem {l : List S46} {i : Nat} (h : i < l.length) : rd_T46 l (i : Int) ∈ l:=by
 unfold rd_T46
 rw [List.getD_eq_getElem?_getD,Int.toNat_natCast,List.getElem?_eq_getElem h]
 exact List.getElem_mem h
theorem rdL7_mem {l : List (List S57)} {i : Nat} (h : i < l.length) : rd_L7 l (i : Int) ∈ l:=by
 unfold rd_L7
 rw [List.getD_eq_getElem?_getD,Int.toNat_natCast,List.getElem?_eq_getElem h]
 exact List.getElem_mem h
theorem rd57_mem {l : List S57} {i : Nat} (h : i < l.length) : rd_T57 l (i : Int) ∈ l:=by
 unfold rd_T57
 rw [List.getD_eq_getElem?_getD,Int.toNat_natCast,List.getElem?_eq_getElem h]
 exact List.getElem_mem h
def fsOk (l : List (List S70)) (p s t : Int) : Bool:=allFrom (fun i => formOk (rd_L5 l (i : Int)) p s t) l.length 0
theorem forms_impl {l : List (List S70)} (hl : l.length ≤ 10) (h : ∀ f ∈ l,FS f) (p : Int) (st : List S67) (ac : List (List S57)) (b0 b1 : Int) (b2 : List Int) (b3 : List (List S70)) (b4 : List S70) (b5 : List S76) (b6 : List S46) (t : Int) (hp : 0 ≤ p ∧ p ≤ 3) (hs : st.length ≤ 3) (ht : 0 ≤ t ∧ t ≤ 4) :
  Ev (fun k => impl_formsOk.f k p st ac b0 b1 b2 b3 b4 b5 b6 l t) (fsOk l p (st.length : Int) t):=by
 simp only [impl_formsOk.f];have:=Ev.ix (n:=l.length) (F:=fun k i => impl_formsOk.l0 k t l (l.length : Int) (i : Int) p st ac b0 b1 b2 b3 b4 b5 b6) (p:=fun i => formOk (rd_L5 l (i : Int)) p (st.length : Int) t) (r:=true)
  (fun _ => Ev.succ (by simp only [impl_formsOk.l0];exact Ev.neg (by omega) (Ev.pure _)))
  (fun i hi v g => Ev.succ (by
   simp only [impl_formsOk.l0]
   refine Ev.pos (by omega) (Ev.pos (by omega) (Ev.pos (by omega) (Ev.and_bind (form_impl (h _ (rdL5_mem hi)) p _ t hp (by omega) ht) (fun e => ?_))))
   rw [wnext hi (by omega)];exact g e))
 rw [Bool.and_true] at this
 exact this
theorem forms_spec {l : List (List S70)} (hl : l.length ≤ 10) (h : ∀ f ∈ l,FS f) (p s t : Int) (hp : 0 ≤ p ∧ p ≤ 3) (hs : 0 ≤ s ∧ s ≤ 3) (ht : 0 ≤ t ∧ t ≤ 4) :
  Ev (fun k => spec_validForms.f k l p s t) (fsOk l p s t):=by
 simp only [spec_validForms.f];have:=Ev.ix (n:=l.length) (F:=fun k i => spec_validForms.l0 k l p s t (i : Int)) (p:=fun i => formOk (rd_L5 l (i : Int)) p s t) (r:=true)
  (fun _ => Ev.succ (by simp only [spec_validForms.l0];exact Ev.neg (by omega) (Ev.pure _)))
  (fun i hi v g => Ev.succ (by
   simp only [spec_validForms.l0]
   refine Ev.pos (by omega) (Ev.pos (by omega) (Ev.and_bind (form_spec (h _ (rdL5_mem hi)) p _ t hp (by omega) ht) (fun e => ?_)))
   rw [wnext hi (by omega)];exact g e))
 rw [Bool.and_true] at this
 exact this
def nmOk (nm : List Int) (i : Nat) : Bool:=decide (0 ≤ rd nm (i : Int) ∧ rd nm (i : Int) ≤ 3) && (decide (i = 0) || !decide (rd nm (i : Int) ≤ rd nm ((i : Int) - 1)))
def onOk (on : List S76) (n : Int) (i : Nat) : Bool:=decide (0 ≤ (rd_T76 on (i : Int)).f0 ∧ (rd_T76 on (i : Int)).f0 ≤ 2) && ((decide (i = 0) || !decide ((rd_T76 on (i : Int)).f0 ≤ (rd_T76 on ((i : Int) - 1)).f0)) && decide (0 ≤ (rd_T76 on (i : Int)).f1 ∧ (rd_T76 on (i : Int)).f1 ≤ n - 1))
theorem names_spec {nm : List Int} (hl : nm.length ≤ 10) : Ev (fun k => spec_validNames.f k nm) (allFrom (nmOk nm) nm.length 0):=by
 simp only [spec_validNames.f];have:=Ev.ix (n:=nm.length) (F:=fun k i => spec_validNames.l0 k nm (i : Int)) (p:=nmOk nm) (r:=true)
  (fun _ => Ev.succ (by simp only [spec_validNames.l0];exact Ev.neg (by omega) (Ev.pure _)))
  (fun i hi v g => Ev.succ (by
   simp only [spec_validNames.l0];rw [wnext hi (by omega),w64 (n:=(i : Int) - 1) (by omega) (by omega)]
   unfold nmOk at g ⊢
   rw [Bool.and_assoc]
   refine Ev.pos (by omega) (Ev.pos (by omega) (Ev.and_bind (inRange_ev _ _ _) (fun e => ?_)))
   by_cases h : i = 0
   ·refine Ev.neg (by omega) (Ev.val (g (by rw [e];simp [h])) (by simp [h]))
   ·refine Ev.pos (by omega) (Ev.pos (by omega) (Ev.pos (by omega) ?_))
    rw [show decide (i = 0) = false from decide_eq_false h,Bool.false_or]
    exact Ev.and_nif fun h2 => g (by rw [e];simp [h2])))
 rw [Bool.and_true] at this
 exact this
theorem ons_spec {on : List S76} (hl : on.length ≤ 10) (n : Int) (hn : 0 ≤ n ∧ n ≤ 10) : Ev (fun k => spec_validOns.f k on n) (allFrom (onOk on n) on.length 0):=by
 simp only [spec_validOns.f];have:=Ev.ix (n:=on.length) (F:=fun k i => spec_validOns.l0 k on n (i : Int)) (p:=onOk on n) (r:=true)
  (fun _ => Ev.succ (by simp only [spec_validOns.l0];exact Ev.neg (by omega) (Ev.pure _)))
  (fun i hi v g => Ev.succ (by
   simp only [spec_validOns.l0];rw [wnext hi (by omega),w64 (n:=(i : Int) - 1) (by omega) (by omega),w64 (n:=n - 1) (by omega) (by omega)]
   unfold onOk at g ⊢
   rw [Bool.and_comm (decide (i = 0) || _),Bool.and_assoc,Bool.and_assoc]
   refine Ev.pos (by omega) (Ev.pos (by omega) (Ev.and_bind (inRange_ev _ _ _) (fun e => Ev.and_bind (inRange_ev _ _ _) (fun e2 => ?_))))
   by_cases h : i = 0
   ·refine Ev.neg (by omega) (Ev.val (g (by rw [e,e2];simp [h])) (by simp [h]))
   ·refine Ev.pos (by omega) (Ev.pos (by omega) (Ev.pos (by omega) ?_))
    rw [show decide (i = 0) = false from decide_eq_false h,Bool.false_or]
    exact Ev.and_nif fun h2 => g (by rw [e,e2];simp [h2])))
 rw [Bool.and_true] at this
 exact this
inductive TFit (n : Int) (at' : Int) : Nat → S46 → Prop
 | mk (e : Nat) (t : S46) (h4 : t.f0 = 4 → (at' < t.f1 ∧ t.f1 < n) ∧ t.f6.length = 0) (h3 : t.f0 = 3 → t.f6.length = 1) (hl : t.f6.length ≤ 4) (hk : ∀ x ∈ t.f6,TFit n at' e x) : TFit n at' (e + 1) t
def tLo (kd : Int) : Int:=if kd = 2 then 1 else if kd = 3 then 1 else 0
def tHi (kd : Int) : Int:=if kd = 0 then 0 else if kd = 4 then 0 else if kd = 2 then 2 else if kd = 3 then 1 else 4
theorem tmpls_ev (kd : Int) : Ev (fun k => spec_tmpls.f k kd) (tLo kd,tHi kd):=by
 unfold tLo tHi
 simp only [spec_tmpls.f]
 by_cases c0 : kd = 0
 ·subst c0
  refine Ev.pos rfl (Ev.succ ?_)
  simp only [spec_tmpls.j0]
  exact Ev.pos rfl (Ev.pure _)
 refine Ev.neg c0 (Ev.succ ?_)
 simp only [spec_tmpls.j0]
 by_cases c4 : kd = 4
 ·subst c4;exact Ev.pos rfl (Ev.pure _)
 refine Ev.neg (by simpa using c4) ?_
 by_cases c2 : kd = 2
 ·subst c2;exact Ev.pos rfl (Ev.pure _)
 refine Ev.neg c2 ?_
 by_cases c3 : kd = 3
 ·subst c3;exact Ev.pos rfl (Ev.pure _)
 refine Ev.neg c3 (Ev.val (Ev.pure _) ?_)
 simp [c0,c2,c3,c4]
def plOk (kd : Int) (nm : List Int) (on : List S76) : Bool:=decide (kd = 1) || (decide (nm.length = 0) && decide (on.length = 0))
def kxOk (kd : Int) (ky : List S70) : Bool:=decide (kd = 3) || decide (ky.length = 0)
def tgOk (at' n kd tag : Int) : Bool:=if kd = 0 then decide (tag = 0) else if kd = 1 then decide (0 ≤ tag ∧ tag ≤ 4) else if kd = 2 then decide (tag = 0) else if kd = 3 then decide (tag = 0) else if kd = 4 then decide (at' + 1 ≤ tag ∧ tag ≤ n - 1) else if kd = 5 then decide (0 ≤ tag ∧ tag ≤ 1) else false
def want (C : List S48) (kd tag : Int) (nm : List Int) : Int:=if kd = 1 then (nm.length : Int) else if kd = 4 then (rd_T48 C tag).f0 else 1
def noOk (kd : Int) (nm : List Int) (on : List S76) (na : Int) : Bool:=if kd = 1 then (allFrom (nmOk nm) nm.length 0 && allFrom (onOk on na) on.length 0) else true
def kfOk (kd : Int) (ky : List S70) (p s tt : Int) : Bool:=if kd = 3 then (if (ky.length : Int) > 0 then formOk ky p s (tt + 1) else true) else true
section
variable {C : List S48} {at' : Int} (hC : C.length ≤ 4) (h0 : 0 ≤ at') (h1 : at' < (C.length : Int)) (hc : ∀ c ∈ C,(0 ≤ c.f0 ∧ c.f0 ≤ 3) ∧ c.f1.length ≤ 3 ∧ c.f2.length ≤ 10)
theorem head_ev (hC : C.length ≤ 4) (h0 : 0 ≤ at') (h1 : at' < (C.length : Int)) (hc : ∀ c ∈ C,(0 ≤ c.f0 ∧ c.f0 ≤ 3) ∧ c.f1.length ≤ 3 ∧ c.f2.length ≤ 10) (kd tag : Int) (nm : List Int) (ar : List (List S70)) (ky : List S70) (on : List S76) (kids : List S46) (hn : nm.length ≤ 10) (ho : on.length ≤ 10) :
  Ev (fun k => spec_validHead.f k C at' kd tag nm ar ky on kids) (plOk kd nm on && (kxOk kd ky && (tgOk at' (C.length : Int) kd tag && (decide ((ar.length : Int) = want C kd tag nm) && noOk kd nm on ((rd_T48 C at').f2.length : Int))))):=by
 obtain ⟨-,-,hac⟩:=hc _ (by
  have h : at'.toNat < C.length:=by omega
  unfold rd_T48
  rw [List.getD_eq_getElem?_getD,List.getElem?_eq_getElem h]
  exact List.getElem_mem h : rd_T48 C at' ∈ C)
 have J1 : Ev (fun k => spec_validHead.j0 k C at' false kd tag nm ar ky on kids) (tgOk at' (C.length : Int) kd tag && (decide ((ar.length : Int) = want C kd tag nm) && noOk kd nm on ((rd_T48 C at').f2.length : Int))):=by
  have beq : ∀ a b : Int,(a == b) = decide (a = b):=fun a b => by by_cases h : a = b <;> simp [h]
  have zero : kd = 0 ∨ kd = 2 ∨ kd = 3 → Ev (fun k => spec_validHead.j1 k C at' kd true kd tag nm ar ky on kids) (tgOk at' (C.length : Int) kd tag && (decide ((ar.length : Int) = want C kd tag nm) && noOk kd nm on ((rd_T48 C at').f2.length : Int))):=by
   intro h
   refine Ev.succ ?_
   simp only [spec_validHead.j1]
   refine Ev.pos trivial (Ev.val (Ev.and_if (fun _ => Ev.pure ((ar.length : Int) == 1))) ?_)
   unfold tgOk want noOk
   rcases h with rfl | rfl | rfl <;> simp [beq]
  refine Ev.succ ?_
  simp only [spec_validHead.j0]
  refine Ev.neg (by simp) ?_
  by_cases c0 : kd = 0
  ·refine Ev.pos c0 ?_
   rw [show (kd == 0) = true from by simp [c0]]
   exact zero (by omega)
  refine Ev.neg c0 ?_
  by_cases c2 : kd = 2
  ·refine Ev.pos c2 ?_
   rw [show (kd == 2) = true from by simp [c2]]
   exact zero (by omega)
  refine Ev.neg c2 ?_
  by_cases c3 : kd = 3
  ·rw [show (kd == 3) = true from by simp [c3]]
   exact zero (by omega)
  rw [show (kd == 3) = false from by simp [c3]]
  refine Ev.succ ?_
  simp only [spec_validHead.j1]
  refine Ev.neg (by simp) ?_
  by_cases c1 : kd = 1
  ·refine Ev.pos c1 (Ev.val (Ev.and_bind (inRange_ev _ _ _) (fun _ => Ev.and_if (fun _ => Ev.and_bind (names_spec hn) (fun _ => Ev.pos h0 (Ev.pos h1 (Ev.bind (ons_spec ho _ (by omega)) (Ev.pure _))))))) ?_)
   unfold tgOk want noOk
   simp [c1]
  refine Ev.neg c1 ?_
  by_cases c4 : kd = 4
  ·refine Ev.pos c4 (Ev.val (Ev.and_bind (inRange_ev _ _ _) (fun e => ?_ : _ → Ev _ ((ar.length : Int) == (rd_T48 C tag).f0))) ?_)
   ·rw [w64 (n:=at' + 1) (by omega) (by omega),w64 (n:=(C.length : Int) - 1) (by omega) (by omega),decide_eq_true_eq] at e
    exact Ev.pos (by omega) (Ev.pos (by omega) (Ev.pure _))
   ·unfold tgOk want noOk
    rw [w64 (n:=at' + 1) (by omega) (by omega),w64 (n:=(C.length : Int) - 1) (by omega) (by omega)]
    simp [c4,beq]
  refine Ev.neg c4 ?_
  by_cases c5 : kd = 5
  ·refine Ev.pos c5 (Ev.val (Ev.and_bind (inRange_ev _ _ _) (fun e => Ev.pure ((ar.length : Int) == 1))) ?_)
   unfold tgOk want noOk
   simp [c5,beq]
  refine Ev.neg c5 (Ev.val (Ev.pure false) ?_)
  unfold tgOk
  simp [c0,c1,c2,c3,c4,c5]
 have JT : Ev (fun k => spec_validHead.j0 k C at' true kd tag nm ar ky on kids) false:=by
  refine Ev.succ ?_
  simp only [spec_validHead.j0]
  exact Ev.pos trivial (Ev.pure _)
 have JK : kd ≠ 3 → Ev (fun k => spec_validHead.j0 k C at' (decide ((ky.length : Int) > 0)) kd tag nm ar ky on kids) (kxOk kd ky && (tgOk at' (C.length : Int) kd tag && (decide ((ar.length : Int) = want C kd tag nm) && noOk kd nm on ((rd_T48 C at').f2.length : Int)))):=by
  intro c3
  unfold kxOk
  rw [show decide (kd = 3) = false from decide_eq_false c3,Bool.false_or]
  by_cases c : (ky.length : Int) > 0
  ·rw [show decide ((ky.length : Int) > 0) = true from decide_eq_true c,show decide (ky.length = 0) = false from decide_eq_false (by omega),Bool.false_and]
   exact JT
  ·rw [show decide ((ky.length : Int) > 0) = false from decide_eq_false c,show decide (ky.length = 0) = true from decide_eq_true (by omega),Bool.true_and]
   exact J1
 simp only [spec_validHead.f]
 unfold plOk
 by_cases c1 : kd = 1
 ·rw [show decide (kd = 1) = true from decide_eq_true c1,Bool.true_or,Bool.true_and]
  exact Ev.pos c1 (Ev.neg (by omega) (JK (by omega)))
 rw [show decide (kd = 1) = false from decide_eq_false c1,Bool.false_or]
 refine Ev.neg c1 ?_
 by_cases cn : (nm.length : Int) > 0
 ·rw [show decide (nm.length = 0) = false from decide_eq_false (by omega),Bool.false_and,Bool.false_and]
  exact Ev.pos cn JT
 refine Ev.neg cn ?_
 by_cases co : (on.length : Int) > 0
 ·rw [show decide (on.length = 0) = false from decide_eq_false (by omega),Bool.and_false,Bool.false_and]
  exact Ev.pos co JT
 refine Ev.neg co ?_
 rw [show decide (nm.length = 0) = true from decide_eq_true (by omega),show decide (on.length = 0) = true from decide_eq_true (by omega),Bool.true_and,Bool.true_and]
 by_cases c3 : kd = 3
 ·refine Ev.pos c3 ?_
  unfold kxOk
  rw [show decide (kd = 3) = true from decide_eq_true c3,Bool.true_or,Bool.true_and]
  exact J1
 ·exact Ev.neg c3 (JK c3)
end
theorem rd48_mem' {C : List S48} {i : Int} (h0 : 0 ≤ i) (h1 : i < (C.length : Int)) : rd_T48 C i ∈ C:=by
 have h : i.toNat < C.length:=by omega
 unfold rd_T48
 rw [List.getD_eq_getElem?_getD,List.getElem?_eq_getElem h]
 exact List.getElem_mem h
theorem j4_ev {C : List S48} {at' d tt : Int} (kd tag : Int) (nm : List Int) (ar : List (List S70)) (ky : List S70) (on : List S76) (kids : List S46) (p : Int) (st : List S67) (ac : List (List S57)) (b0 b1 : Int) (b2 : List Int) (b3 : List (List S70)) (b4 : List S70) (b5 : List S76) (b6 : List S46)
  (ha : ar.length ≤ 10) (ha' : ∀ f ∈ ar,FS f) (hp : 0 ≤ p ∧ p ≤ 3) (hs : st.length ≤ 3) (ht : 0 ≤ tt ∧ tt ≤ 3) (w lo hi : Int) (kv : Bool)
  (K : Ev (fun k => impl_tmplOk.l2 k C at' d (if kd = 3 then tt + 1 else tt) kids (kids.length : Int) 0) kv) :
  Ev (fun k => impl_tmplOk.j4 k C at' d tt w lo hi kd tag nm ar ky on kids p st ac b0 b1 b2 b3 b4 b5 b6) (decide ((ar.length : Int) = w) && (decide (lo ≤ (kids.length : Int) ∧ (kids.length : Int) ≤ hi) && (fsOk ar p (st.length : Int) tt && kv))):=by
 have J5 : ∀ b,Ev (fun k => impl_tmplOk.j5 k C at' d tt b kd tag nm ar ky on kids) (!b && kv):=by
  intro b
  refine Ev.succ ?_
  simp only [impl_tmplOk.j5]
  cases b with
  | true => exact Ev.pos rfl (Ev.pure _)
  | false =>
   refine Ev.neg (by simp) (Ev.val ?_ (Bool.true_and kv).symm)
   by_cases c3 : kd = 3
   ·rw [if_pos c3] at K
    refine Ev.pos c3 (Ev.succ ?_)
    simp only [impl_tmplOk.j6];rw [w64 (n:=tt + 1) (by omega) (by omega)]
    exact K
   ·rw [if_neg c3] at K
    refine Ev.neg c3 (Ev.succ ?_)
    simp only [impl_tmplOk.j6]
    exact K
 refine Ev.succ ?_
 simp only [impl_tmplOk.j4]
 by_cases c1 : (ar.length : Int) = w
 ·rw [show decide ((ar.length : Int) = w) = true from decide_eq_true c1,Bool.true_and]
  refine Ev.pos c1 (Ev.bind (within_ev _ _ _) ?_)
  by_cases c2 : lo ≤ (kids.length : Int) ∧ (kids.length : Int) ≤ hi
  ·rw [show decide (lo ≤ (kids.length : Int) ∧ (kids.length : Int) ≤ hi) = true from decide_eq_true c2,Bool.true_and]
   refine Ev.pos rfl (Ev.bind (forms_impl ha ha' p st ac b0 b1 b2 b3 b4 b5 b6 tt hp hs (by omega)) ?_)
   exact Ev.val (J5 _) (by rw [Bool.not_not])
  ·rw [show decide (lo ≤ (kids.length : Int) ∧ (kids.length : Int) ≤ hi) = false from decide_eq_false c2,Bool.false_and]
   exact Ev.neg (by simp) (J5 true)
 ·rw [show decide ((ar.length : Int) = w) = false from decide_eq_false c1,Bool.false_and]
  exact Ev.neg c1 (J5 true)
theorem el_ev {C : List S48} {at' d tt : Int} (w lo hi : Int) (kd tag : Int) (nm : List Int) (ar : List (List S70)) (ky : List S70) (on : List S76) (kids : List S46) (p : Int) (st : List S67) (ac : List (List S57)) (b0 b1 : Int) (b2 : List Int) (b3 : List (List S70)) (b4 : List S70) (b5 : List S76) (b6 : List S46)
  (hn : nm.length ≤ 10) (ho : on.length ≤ 10) (hac : ac.length ≤ 10) (v : Bool)
  (J : Ev (fun k => impl_tmplOk.j4 k C at' d tt w lo hi kd tag nm ar ky on kids p st ac b0 b1 b2 b3 b4 b5 b6) v) :
  Ev (fun k => impl_tmplOk.l0 k C at' d tt w lo hi nm (nm.length : Int) 0 kd tag nm ar ky on kids p st ac b0 b1 b2 b3 b4 b5 b6) (allFrom (nmOk nm) nm.length 0 && (allFrom (onOk on (ac.length : Int)) on.length 0 && v)):=by
 have L1:=Ev.ix (n:=on.length) (F:=fun k i => impl_tmplOk.l1 k C at' d tt w lo hi on (on.length : Int) (i : Int) kd tag nm ar ky on kids p st ac b0 b1 b2 b3 b4 b5 b6) (p:=onOk on (ac.length : Int)) (r:=v)
  (fun _ => Ev.succ (by simp only [impl_tmplOk.l1];exact Ev.neg (by omega) J))
  (fun i hi' v g => Ev.succ (by
   simp only [impl_tmplOk.l1];rw [wnext hi' (by omega),w64 (n:=(i : Int) - 1) (by omega) (by omega),w64 (n:=(ac.length : Int) - 1) (by omega) (by omega)]
   unfold onOk at g ⊢
   rw [Bool.and_assoc,Bool.and_assoc]
   refine Ev.pos (by omega) (Ev.pos (by omega) (Ev.pos (by omega) (Ev.and_bind (within_ev _ _ _) (fun e => ?_))))
   by_cases h : i = 0
   ·rw [show decide (i = 0) = true from decide_eq_true h,Bool.true_or,Bool.true_and]
    exact Ev.neg (by omega) (Ev.and_bind (within_ev _ _ _) (fun e2 => g (by rw [e,e2];simp [h])))
   ·refine Ev.pos (by omega) (Ev.pos (by omega) (Ev.pos (by omega) ?_))
    rw [show decide (i = 0) = false from decide_eq_false h,Bool.false_or]
    exact Ev.and_nif fun h2 => Ev.and_bind (within_ev _ _ _) (fun e2 => g (by rw [e,e2];simp [h2]))))
 exact Ev.ix (n:=nm.length) (F:=fun k i => impl_tmplOk.l0 k C at' d tt w lo hi nm (nm.length : Int) (i : Int) kd tag nm ar ky on kids p st ac b0 b1 b2 b3 b4 b5 b6) (p:=nmOk nm) (r:=(allFrom (onOk on (ac.length : Int)) on.length 0 && v))
  (fun _ => Ev.succ (by simp only [impl_tmplOk.l0];exact Ev.neg (by omega) L1))
  (fun i hi' v g => Ev.succ (by
   simp only [impl_tmplOk.l0];rw [wnext hi' (by omega),w64 (n:=(i : Int) - 1) (by omega) (by omega)]
   unfold nmOk at g ⊢
   rw [Bool.and_assoc]
   refine Ev.pos (by omega) (Ev.pos (by omega) (Ev.pos (by omega) (Ev.and_bind (within_ev _ _ _) (fun e => ?_))))
   by_cases h : i = 0
   ·rw [show decide (i = 0) = true from decide_eq_true h,Bool.true_or,Bool.true_and]
    exact Ev.neg (by omega) (g (by rw [e];simp [h]))
   ·refine Ev.pos (by omega) (Ev.pos (by omega) (Ev.pos (by omega) ?_))
    rw [show decide (i = 0) = false from decide_eq_false h,Bool.false_or]
    exact Ev.and_nif fun h2 => g (by rw [e];simp [h2])))
theorem node_impl {C : List S48} {at' d tt : Int} (hC : C.length ≤ 4) (h0 : 0 ≤ at') (h1 : at' < (C.length : Int)) (hc : ∀ c ∈ C,(0 ≤ c.f0 ∧ c.f0 ≤ 3) ∧ c.f1.length ≤ 3 ∧ c.f2.length ≤ 10)
  (kd tag : Int) (nm : List Int) (ar : List (List S70)) (ky : List S70) (on : List S76) (kids : List S46) (hn : nm.length ≤ 10) (ho : on.length ≤ 10) (ha : ar.length ≤ 10) (ha' : ∀ f ∈ ar,FS f) (hk : FS ky) (hd : d ≤ 4) (ht : 0 ≤ tt ∧ tt ≤ 3) (kv : Bool)
  (K : Ev (fun k => impl_tmplOk.l2 k C at' d (if kd = 3 then tt + 1 else tt) kids (kids.length : Int) 0) kv) :
  Ev (fun k => impl_tmplOk.f k C at' kd tag nm ar ky on kids d tt) (plOk kd nm on && (kxOk kd ky && (tgOk at' (C.length : Int) kd tag && (noOk kd nm on ((rd_T48 C at').f2.length : Int) && (kfOk kd ky (rd_T48 C at').f0 ((rd_T48 C at').f1.length : Int) tt && (decide ((ar.length : Int) = want C kd tag nm) && (decide (tLo kd ≤ (kids.length : Int) ∧ (kids.length : Int) ≤ tHi kd) && (fsOk ar (rd_T48 C at').f0 ((rd_T48 C at').f1.length : Int) tt && kv)))))))):=by
 obtain ⟨hp,hs,hac⟩:=hc _ (rd48_mem' h0 h1)
 refine Ev.succ ?_
 simp only [impl_tmplOk.f]
 refine Ev.pos h0 (Ev.pos h1 (Ev.neg (by omega) ?_))
 generalize (rd_T48 C at').f0 = p at *;generalize (rd_T48 C at').f1 = st at *;generalize (rd_T48 C at').f2 = ac at *;generalize (rd_T48 C at').f3.f0 = b0;generalize (rd_T48 C at').f3.f1 = b1;generalize (rd_T48 C at').f3.f2 = b2;generalize (rd_T48 C at').f3.f3 = b3;generalize (rd_T48 C at').f3.f4 = b4;generalize (rd_T48 C at').f3.f5 = b5;generalize (rd_T48 C at').f3.f6 = b6
 have J4:=fun w lo hi => j4_ev (C:=C) (at':=at') (d:=d) (tt:=tt) kd tag nm ar ky on kids p st ac b0 b1 b2 b3 b4 b5 b6 ha ha' hp hs ht w lo hi kv K
 have J1 : Ev (fun k => impl_tmplOk.j0 k C at' d tt false kd tag nm ar ky on kids p st ac b0 b1 b2 b3 b4 b5 b6) (tgOk at' (C.length : Int) kd tag && (noOk kd nm on (ac.length : Int) && (kfOk kd ky p (st.length : Int) tt && (decide ((ar.length : Int) = want C kd tag nm) && (decide (tLo kd ≤ (kids.length : Int) ∧ (kids.length : Int) ≤ tHi kd) && (fsOk ar p (st.length : Int) tt && kv)))))):=by
  have bne : ∀ a : Int,(a != 0) = !decide (a = 0):=fun a => by by_cases h : a = 0 <;> simp [h]
  refine Ev.succ ?_
  simp only [impl_tmplOk.j0]
  refine Ev.neg (by simp) ?_
  have Z : ∀ (b v : Bool),(b = false → Ev (fun k => if kd = 0 then impl_tmplOk.j4 k C at' d tt 1 0 0 kd tag nm ar ky on kids p st ac b0 b1 b2 b3 b4 b5 b6 else if kd = 1 then (impl_within.f tag 0 4).bind fun t957 => (if t957 = true then (impl_tmplOk.l0 k C at' d tt (nm.length : Int) 0 4 nm (nm.length : Int) 0 kd tag nm ar ky on kids p st ac b0 b1 b2 b3 b4 b5 b6) else some false) else if kd = 2 then impl_tmplOk.j4 k C at' d tt 1 1 2 kd tag nm ar ky on kids p st ac b0 b1 b2 b3 b4 b5 b6 else if kd = 3 then (if (ky.length : Int) > 0 then (impl_FormOk.f k ky p (st.length : Int) (wrap64 (tt + 1))).bind fun t967 => (if t967 = true then (impl_tmplOk.j4 k C at' d tt 1 1 1 kd tag nm ar ky on kids p st ac b0 b1 b2 b3 b4 b5 b6) else some false) else impl_tmplOk.j4 k C at' d tt 1 1 1 kd tag nm ar ky on kids p st ac b0 b1 b2 b3 b4 b5 b6) else if kd = 4 then (impl_within.f tag (wrap64 (at' + 1)) (wrap64 ((C.length : Int) - 1))).bind fun t968 => (if t968 = true then (if 0 ≤ tag then (if tag < (C.length : Int) then impl_tmplOk.j4 k C at' d tt ((rd_T48 C tag).f0) 0 0 kd tag nm ar ky on kids p st ac b0 b1 b2 b3 b4 b5 b6 else none) else none) else some false) else if kd = 5 then (impl_within.f tag 0 1).bind fun t970 => (if t970 = true then (impl_tmplOk.j4 k C at' d tt 1 0 4 kd tag nm ar ky on kids p st ac b0 b1 b2 b3 b4 b5 b6) else some false) else some false) v) → Ev (fun k => impl_tmplOk.j1 k C at' d tt b kd tag nm ar ky on kids p st ac b0 b1 b2 b3 b4 b5 b6) (!b && v):=by
   intro b v g
   refine Ev.succ ?_
   simp only [impl_tmplOk.j1]
   cases b with
   | true => exact Ev.pos rfl (Ev.pure _)
   | false => exact Ev.neg (by simp) (Ev.val (g rfl) (Bool.true_and v).symm)
  by_cases c0 : kd = 0
  ·refine Ev.pos c0 (Ev.val (Z (tag != 0) _ (fun _ => Ev.pos c0 (J4 1 0 0))) ?_)
   unfold tgOk noOk kfOk want tLo tHi
   simp [c0,bne]
  refine Ev.neg c0 ?_
  by_cases c2 : kd = 2
  ·refine Ev.pos c2 (Ev.val (Z (tag != 0) _ (fun _ => Ev.neg c0 (Ev.neg (by omega) (Ev.pos c2 (J4 1 1 2))))) ?_)
   unfold tgOk noOk kfOk want tLo tHi
   simp [c2,bne]
  refine Ev.neg c2 ?_
  by_cases c3 : kd = 3
  ·have KF : Ev (fun k => if (ky.length : Int) > 0 then (impl_FormOk.f k ky p (st.length : Int) (wrap64 (tt + 1))).bind fun t967 => (if t967 = true then (impl_tmplOk.j4 k C at' d tt 1 1 1 kd tag nm ar ky on kids p st ac b0 b1 b2 b3 b4 b5 b6) else some false) else impl_tmplOk.j4 k C at' d tt 1 1 1 kd tag nm ar ky on kids p st ac b0 b1 b2 b3 b4 b5 b6) (kfOk kd ky p (st.length : Int) tt && (decide ((ar.length : Int) = 1) && (decide ((1 : Int) ≤ (kids.length : Int) ∧ (kids.length : Int) ≤ 1) && (fsOk ar p (st.length : Int) tt && kv)))):=by
    unfold kfOk
    rw [if_pos c3]
    by_cases cy : (ky.length : Int) > 0
    ·rw [if_pos cy,w64 (n:=tt + 1) (by omega) (by omega)]
     exact Ev.pos cy (Ev.and_bind (form_impl hk p _ (tt + 1) hp (by omega) (by omega)) (fun _ => J4 1 1 1))
    ·rw [if_neg cy,Bool.true_and]
     exact Ev.neg cy (J4 1 1 1)
   refine Ev.pos c3 (Ev.val (Z (tag != 0) _ (fun _ => Ev.neg c0 (Ev.neg (by omega) (Ev.neg c2 (Ev.pos c3 KF))))) ?_)
   unfold tgOk noOk want tLo tHi
   simp [c3,bne]
  refine Ev.neg c3 ?_
  have fin : ∀ v,Ev (fun k => impl_tmplOk.j1 k C at' d tt false kd tag nm ar ky on kids p st ac b0 b1 b2 b3 b4 b5 b6) (!false && v) → Ev (fun k => impl_tmplOk.j1 k C at' d tt false kd tag nm ar ky on kids p st ac b0 b1 b2 b3 b4 b5 b6) v:=fun v g => Ev.val g (Bool.true_and v)
  by_cases c1 : kd = 1
  ·refine Ev.val (fin _ (Z false _ (fun _ => Ev.neg c0 (Ev.pos c1 (Ev.and_bind (within_ev _ _ _) (fun _ => el_ev (nm.length : Int) 0 4 kd tag nm ar ky on kids p st ac b0 b1 b2 b3 b4 b5 b6 hn ho hac _ (J4 _ _ _))))))) ?_
   unfold tgOk noOk kfOk want tLo tHi
   simp [c1,Bool.and_assoc]
  by_cases c4 : kd = 4
  ·have G : Ev (fun k => (impl_within.f tag (wrap64 (at' + 1)) (wrap64 ((C.length : Int) - 1))).bind fun t968 => (if t968 = true then (if 0 ≤ tag then (if tag < (C.length : Int) then impl_tmplOk.j4 k C at' d tt ((rd_T48 C tag).f0) 0 0 kd tag nm ar ky on kids p st ac b0 b1 b2 b3 b4 b5 b6 else none) else none) else some false)) (decide (at' + 1 ≤ tag ∧ tag ≤ (C.length : Int) - 1) && (decide ((ar.length : Int) = (rd_T48 C tag).f0) && (decide ((0 : Int) ≤ (kids.length : Int) ∧ (kids.length : Int) ≤ 0) && (fsOk ar p (st.length : Int) tt && kv)))):=by
    rw [w64 (n:=at' + 1) (by omega) (by omega),w64 (n:=(C.length : Int) - 1) (by omega) (by omega)]
    refine Ev.and_bind (within_ev _ _ _) (fun e => ?_)
    rw [decide_eq_true_eq] at e
    exact Ev.pos (by omega) (Ev.pos (by omega) (J4 _ _ _))
   refine Ev.val (fin _ (Z false _ (fun _ => Ev.neg c0 (Ev.neg c1 (Ev.neg c2 (Ev.neg c3 (Ev.pos c4 G))))))) ?_
   unfold tgOk noOk kfOk want tLo tHi
   simp [c4]
  by_cases c5 : kd = 5
  ·refine Ev.val (fin _ (Z false _ (fun _ => Ev.neg c0 (Ev.neg c1 (Ev.neg c2 (Ev.neg c3 (Ev.neg c4 (Ev.pos c5 (Ev.and_bind (within_ev _ _ _) (fun e => J4 1 0 4)))))))))) ?_
   unfold tgOk noOk kfOk want tLo tHi
   simp [c5]
  ·refine Ev.val (fin _ (Z false _ (fun _ => Ev.neg c0 (Ev.neg c1 (Ev.neg c2 (Ev.neg c3 (Ev.neg c4 (Ev.neg c5 (Ev.pure false))))))))) ?_
   unfold tgOk
   simp [c0,c1,c2,c3,c4,c5]
 have JT : Ev (fun k => impl_tmplOk.j0 k C at' d tt true kd tag nm ar ky on kids p st ac b0 b1 b2 b3 b4 b5 b6) false:=by
  refine Ev.succ ?_
  simp only [impl_tmplOk.j0]
  exact Ev.pos trivial (Ev.pure _)
 revert J1
 generalize (tgOk at' (C.length : Int) kd tag && (noOk kd nm on (ac.length : Int) && (kfOk kd ky p (st.length : Int) tt && (decide ((ar.length : Int) = want C kd tag nm) && (decide (tLo kd ≤ (kids.length : Int) ∧ (kids.length : Int) ≤ tHi kd) && (fsOk ar p (st.length : Int) tt && kv)))))) = v
 intro J1
 have JK : kd ≠ 3 → Ev (fun k => impl_tmplOk.j0 k C at' d tt (decide ((ky.length : Int) > 0)) kd tag nm ar ky on kids p st ac b0 b1 b2 b3 b4 b5 b6) (kxOk kd ky && v):=by
  intro c3
  unfold kxOk
  rw [show decide (kd = 3) = false from decide_eq_false c3,Bool.false_or]
  by_cases c : (ky.length : Int) > 0
  ·rw [show decide ((ky.length : Int) > 0) = true from decide_eq_true c,show decide (ky.length = 0) = false from decide_eq_false (by omega),Bool.false_and]
   exact JT
  ·rw [show decide ((ky.length : Int) > 0) = false from decide_eq_false c,show decide (ky.length = 0) = true from decide_eq_true (by omega),Bool.true_and]
   exact J1
 unfold plOk
 by_cases c1 : kd = 1
 ·rw [show decide (kd = 1) = true from decide_eq_true c1,Bool.true_or,Bool.true_and]
  exact Ev.pos c1 (Ev.neg (by omega) (JK (by omega)))
 rw [show decide (kd = 1) = false from decide_eq_false c1,Bool.false_or]
 refine Ev.neg c1 ?_
 by_cases cn : (nm.length : Int) > 0
 ·rw [show decide (nm.length = 0) = false from decide_eq_false (by omega),Bool.false_and,Bool.false_and]
  exact Ev.pos cn JT
 refine Ev.neg cn ?_
 by_cases co : (on.length : Int) > 0
 ·rw [show decide (on.length = 0) = false from decide_eq_false (by omega),Bool.and_false,Bool.false_and]
  exact Ev.pos co JT
 refine Ev.neg co ?_
 rw [show decide (nm.length = 0) = true from decide_eq_true (by omega),show decide (on.length = 0) = true from decide_eq_true (by omega),Bool.true_and,Bool.true_and]
 by_cases c3 : kd = 3
 ·refine Ev.pos c3 ?_
  unfold kxOk
  rw [show decide (kd = 3) = true from decide_eq_true c3,Bool.true_or,Bool.true_and]
  exact J1
 ·exact Ev.neg c3 (JK c3)
theorem node_spec {C : List S48} {at' d tt : Int} (hC : C.length ≤ 4) (h0 : 0 ≤ at') (h1 : at' < (C.length : Int)) (hc : ∀ c ∈ C,(0 ≤ c.f0 ∧ c.f0 ≤ 3) ∧ c.f1.length ≤ 3 ∧ c.f2.length ≤ 10)
  (kd tag : Int) (nm : List Int) (ar : List (List S70)) (ky : List S70) (on : List S76) (kids : List S46) (hn : nm.length ≤ 10) (ho : on.length ≤ 10) (ha : ar.length ≤ 10) (ha' : ∀ f ∈ ar,FS f) (hk : FS ky) (hd : d ≤ 4) (ht : 0 ≤ tt ∧ tt ≤ 3) (kv : Bool)
  (K : Ev (fun k => spec_validTmpl.l0 k C at' d (if kd = 3 then tt + 1 else tt) 0 kd tag nm ar ky on kids) kv) :
  Ev (fun k => spec_validTmpl.f k C at' kd tag nm ar ky on kids d tt) ((plOk kd nm on && (kxOk kd ky && (tgOk at' (C.length : Int) kd tag && (decide ((ar.length : Int) = want C kd tag nm) && noOk kd nm on ((rd_T48 C at').f2.length : Int))))) && (decide (tLo kd ≤ (kids.length : Int) ∧ (kids.length : Int) ≤ tHi kd) && (fsOk ar (rd_T48 C at').f0 ((rd_T48 C at').f1.length : Int) tt && (kfOk kd ky (rd_T48 C at').f0 ((rd_T48 C at').f1.length : Int) tt && kv)))):=by
 obtain ⟨hp,hs,hac⟩:=hc _ (rd48_mem' h0 h1)
 have J1 : ∀ u,(u = if kd = 3 then tt + 1 else tt) → Ev (fun k => spec_validTmpl.j1 k C at' d u kd tag nm ar ky on kids) kv:=by
  rintro u rfl
  refine Ev.succ ?_
  simp only [spec_validTmpl.j1]
  exact K
 have J0 : ∀ b,Ev (fun k => spec_validTmpl.j0 k C at' d tt b kd tag nm ar ky on kids) (!b && (fsOk ar (rd_T48 C at').f0 ((rd_T48 C at').f1.length : Int) tt && (kfOk kd ky (rd_T48 C at').f0 ((rd_T48 C at').f1.length : Int) tt && kv))):=by
  intro b
  refine Ev.succ ?_
  simp only [spec_validTmpl.j0]
  cases b with
  | true => exact Ev.pos rfl (Ev.pure _)
  | false =>
   refine Ev.neg (by simp) (Ev.pos h0 (Ev.pos h1 (Ev.val (Ev.and_bind (forms_spec ha ha' _ _ tt hp (by omega) (by omega)) (fun _ => ?_ : _ → Ev _ (kfOk kd ky (rd_T48 C at').f0 ((rd_T48 C at').f1.length : Int) tt && kv))) (Bool.true_and _).symm)))
   unfold kfOk
   by_cases c3 : kd = 3
   ·rw [if_pos c3,w64 (n:=tt + 1) (by omega) (by omega)]
    refine Ev.pos c3 ?_
    by_cases cy : (ky.length : Int) > 0
    ·rw [if_pos cy]
     exact Ev.pos cy (Ev.and_bind (form_spec hk _ _ (tt + 1) hp (by omega) (by omega)) (fun _ => J1 _ (by rw [if_pos c3])))
    ·rw [if_neg cy,Bool.true_and]
     exact Ev.neg cy (J1 _ (by rw [if_pos c3]))
   ·rw [if_neg c3,Bool.true_and]
    exact Ev.neg c3 (J1 _ (by rw [if_neg c3]))
 refine Ev.succ ?_
 simp only [spec_validTmpl.f]
 refine Ev.bind (tmpls_ev kd) (Ev.neg (by omega) ?_)
 have H:=head_ev hC h0 h1 hc kd tag nm ar ky on kids hn ho
 revert H
 generalize (plOk kd nm on && (kxOk kd ky && (tgOk at' (C.length : Int) kd tag && (decide ((ar.length : Int) = want C kd tag nm) && noOk kd nm on ((rd_T48 C at').f2.length : Int))))) = hv
 intro H
 refine Ev.bind H ?_
 cases hv with
 | false => exact Ev.neg (by simp) (Ev.val (J0 true) (by simp))
 | true =>
  refine Ev.pos rfl (Ev.bind (inRange_ev _ _ _) ?_)
  exact Ev.val (J0 _) (by simp)
theorem tmpl_ok {C : List S48} {at' : Int} (hC : C.length ≤ 4) (h0 : 0 ≤ at') (h1 : at' < (C.length : Int)) (hc : ∀ c ∈ C,(0 ≤ c.f0 ∧ c.f0 ≤ 3) ∧ c.f1.length ≤ 3 ∧ c.f2.length ≤ 10) :
  ∀ t,TS t → ∀ (e : Nat) (d tt : Int),d = 5 - (e : Int) → 1 ≤ d → 0 ≤ tt → tt ≤ d - 1 →
   ∃ b,Ev (fun k => impl_tmplOk.f k C at' t.f0 t.f1 t.f2 t.f3 t.f4 t.f5 t.f6 d tt) b ∧ Ev (fun k => spec_validTmpl.f k C at' t.f0 t.f1 t.f2 t.f3 t.f4 t.f5 t.f6 d tt) b ∧ (b = true → TFit (C.length : Int) at' e t):=by
 intro t h
 induction h with
 | mk t h2 h3 h3' h4 h5 h6 h6' ih =>
  intro e d tt he hd ht0 ht1
  cases e with
  | zero =>
   refine ⟨false,Ev.succ ?_,Ev.succ ?_,fun h => absurd h (by simp)⟩
   ·simp only [impl_tmplOk.f]
    exact Ev.pos h0 (Ev.pos h1 (Ev.pos (by omega) (Ev.pure _)))
   ·simp only [spec_validTmpl.f]
    refine Ev.bind (tmpls_ev _) (Ev.pos (by omega) (Ev.succ ?_))
    simp only [spec_validTmpl.j0]
    exact Ev.pos trivial (Ev.pure _)
  | succ e =>
   obtain ⟨u,hu⟩ : ∃ u,u = if t.f0 = 3 then tt + 1 else tt:=⟨_,rfl⟩
   have hu0 : 0 ≤ u ∧ u ≤ d:=by rw [hu];split <;> omega
   have ex : ∀ i : Nat,∃ b,i < t.f6.length → Ev (fun k => impl_tmplOk.f k C at' (rd_T46 t.f6 (i : Int)).f0 (rd_T46 t.f6 (i : Int)).f1 (rd_T46 t.f6 (i : Int)).f2 (rd_T46 t.f6 (i : Int)).f3 (rd_T46 t.f6 (i : Int)).f4 (rd_T46 t.f6 (i : Int)).f5 (rd_T46 t.f6 (i : Int)).f6 (d + 1) u) b ∧ Ev (fun k => spec_validTmpl.f k C at' (rd_T46 t.f6 (i : Int)).f0 (rd_T46 t.f6 (i : Int)).f1 (rd_T46 t.f6 (i : Int)).f2 (rd_T46 t.f6 (i : Int)).f3 (rd_T46 t.f6 (i : Int)).f4 (rd_T46 t.f6 (i : Int)).f5 (rd_T46 t.f6 (i : Int)).f6 (d + 1) u) b ∧ (b = true → TFit (C.length : Int) at' e (rd_T46 t.f6 (i : Int))):=by
    intro i
    by_cases hi : i < t.f6.length
    ·obtain ⟨b,g⟩:=ih _ (rd46_mem hi) e (d + 1) u (by omega) (by omega) hu0.1 (by omega)
     exact ⟨b,fun _ => g⟩
    ·exact ⟨true,fun h => absurd h hi⟩
   obtain ⟨p,hp⟩:=Classical.skolem.mp ex
   have K1 : Ev (fun k => impl_tmplOk.l2 k C at' d (if t.f0 = 3 then tt + 1 else tt) t.f6 (t.f6.length : Int) 0) (allFrom p t.f6.length 0 && true):=by
    rw [← hu]
    exact Ev.ix (n:=t.f6.length) (F:=fun k i => impl_tmplOk.l2 k C at' d u t.f6 (t.f6.length : Int) (i : Int)) (p:=p) (r:=true)
     (fun _ => Ev.succ (by simp only [impl_tmplOk.l2];exact Ev.neg (by omega) (Ev.pure _)))
     (fun i hi v g => Ev.succ (by
      simp only [impl_tmplOk.l2];rw [wnext hi (by omega),w64 (n:=d + 1) (by omega) (by omega)]
      exact Ev.pos (by omega) (Ev.pos (by omega) (Ev.pos (by omega) (Ev.and_bind (hp i hi).1 g)))))
   have K2 : Ev (fun k => spec_validTmpl.l0 k C at' d (if t.f0 = 3 then tt + 1 else tt) 0 t.f0 t.f1 t.f2 t.f3 t.f4 t.f5 t.f6) (allFrom p t.f6.length 0 && true):=by
    rw [← hu]
    exact Ev.ix (n:=t.f6.length) (F:=fun k i => spec_validTmpl.l0 k C at' d u (i : Int) t.f0 t.f1 t.f2 t.f3 t.f4 t.f5 t.f6) (p:=p) (r:=true)
     (fun _ => Ev.succ (by simp only [spec_validTmpl.l0];exact Ev.neg (by omega) (Ev.pure _)))
     (fun i hi v g => Ev.succ (by
      simp only [spec_validTmpl.l0];rw [wnext hi (by omega),w64 (n:=d + 1) (by omega) (by omega)]
      exact Ev.pos (by omega) (Ev.pos (by omega) (Ev.and_bind (hp i hi).2.1 g))))
   have I:=node_impl hC h0 h1 hc t.f0 t.f1 t.f2 t.f3 t.f4 t.f5 t.f6 h2 h5 h3 h3' h4 (by omega) (by omega) _ K1;have S:=node_spec hC h0 h1 hc t.f0 t.f1 t.f2 t.f3 t.f4 t.f5 t.f6 h2 h5 h3 h3' h4 (by omega) (by omega) _ K2
   refine ⟨_,I,Ev.val S ?_,?_⟩
   ·simp only [Bool.and_assoc,Bool.and_comm,Bool.and_left_comm]
   ·intro hb
    simp only [Bool.and_eq_true,decide_eq_true_eq] at hb;obtain ⟨-,-,htg,-,-,-,hkr,-,hka,-⟩:=hb;have hka:=allFrom_all hka
    have mem : ∀ x ∈ t.f6,TFit (C.length : Int) at' e x:=by
     intro x hx
     obtain ⟨i,hi,rfl⟩:=List.mem_iff_getElem.1 hx;have:=(hp i hi).2.2 (hka i hi)
     unfold rd_T46 at this
     rw [List.getD_eq_getElem?_getD,Int.toNat_natCast,List.getElem?_eq_getElem hi] at this
     exact this
    refine TFit.mk e t (fun c4 => ?_) (fun c3 => ?_) ?_ mem
    ·unfold tgOk at htg
     unfold tLo tHi at hkr
     simp [c4] at htg hkr
     constructor
     ·omega
     ·simp [hkr]
    ·unfold tLo tHi at hkr
     simp [c3] at hkr
     omega
    ·unfold tLo tHi at hkr
     have : (if t.f0 = 0 then (0 : Int) else if t.f0 = 4 then 0 else if t.f0 = 2 then 2 else if t.f0 = 3 then 1 else 4) ≤ 4:=by
      repeat' split
      all_goals omega
     omega
def sumFrom (p : Nat → Int) : Nat → Nat → Int
 | 0,_ => 0
 | d + 1,i => p i + sumFrom p d (i + 1)
theorem sumFrom_in {p : Nat → Int} {Y : Int} {n : Nat} (hp : ∀ i,i < n → 1 ≤ p i ∧ p i ≤ Y) : ∀ d i,i + d ≤ n → 0 ≤ sumFrom p d i ∧ sumFrom p d i ≤ (d : Int) * Y:=by
 intro d
 induction d with
 | zero => intro i hi;simp [sumFrom]
 | succ d ih =>
  intro i hi
  have h1:=ih (i + 1) (by omega);have h2:=hp i (by omega);simp only [sumFrom]
  have : ((d + 1 : Nat) : Int) * Y = (d : Int) * Y + Y:=by rw [Int.natCast_add,Int.add_mul];simp
  omega
theorem mn_is (a : Int) : (a < 201 ∧ mn a 201 = a) ∨ (201 ≤ a ∧ mn a 201 = 201):=by
 unfold mn;split <;> omega
theorem sumFrom_cut {p : Nat → Int} {n : Nat} (c : Int) (hc : c = 1 ∨ c = 4) (hp : ∀ i,i < n → 1 ≤ p i) : ∀ d i,i + d ≤ n → (0 ≤ sumFrom p d i ∧ 0 ≤ sumFrom (fun j => mn (p j) 201 * c) d i) ∧ (sumFrom (fun j => mn (p j) 201 * c) d i = sumFrom p d i * c ∨ (201 ≤ sumFrom (fun j => mn (p j) 201 * c) d i ∧ 201 ≤ sumFrom p d i * c)):=by
 intro d
 induction d with
 | zero => intro i hi;simp [sumFrom]
 | succ d ih =>
  intro i hi
  have h1:=ih (i + 1) (by omega);have h2:=hp i (by omega);have h3:=mn_is (p i);simp only [sumFrom];rw [Int.add_mul]
  rcases hc with rfl | rfl <;> omega
def szB (X : Int) : Nat → Int
 | 0 => X + 2
 | e + 1 => 5 * szB X e
theorem szB_ge {X : Int} (h : 0 ≤ X) : ∀ e,X + 2 ≤ szB X e:=by
 intro e
 induction e with
 | zero => simp [szB]
 | succ e ih => simp only [szB];omega
theorem size_ok {C : List S48} {at' : Int} {X : Int} {s : Nat → Int} (hX : 0 ≤ X) (hC : C.length ≤ 4) (h0 : 0 ≤ at')
  (hs : ∀ j : Nat,at' < (j : Int) → j < C.length → (1 ≤ s j ∧ s j ≤ X) ∧ Ev (fun k => impl_tmplSize.f k C (rd_T48 C (j : Int)).f3.f0 (rd_T48 C (j : Int)).f3.f1 (rd_T48 C (j : Int)).f3.f2 (rd_T48 C (j : Int)).f3.f3 (rd_T48 C (j : Int)).f3.f4 (rd_T48 C (j : Int)).f3.f5 (rd_T48 C (j : Int)).f3.f6) (s j)) :
  ∀ (e : Nat) (t : S46),TFit (C.length : Int) at' e t → szB X e ≤ 1000000000000000 →
   ∃ v,(1 ≤ v ∧ v ≤ szB X e) ∧ Ev (fun k => impl_tmplSize.f k C t.f0 t.f1 t.f2 t.f3 t.f4 t.f5 t.f6) v ∧
    ∀ xs : List Int,xs.length = C.length → (∀ j : Nat,at' < (j : Int) → j < C.length → rd xs (j : Int) = mn (s j) 201) → Ev (fun k => spec_sizeOf.f k t.f0 t.f1 t.f2 t.f3 t.f4 t.f5 t.f6 xs) (mn v 201):=by
 intro e t h
 induction h with
 | mk e t h4 h3 hl hk ih =>
  intro hB
  simp only [szB] at hB ⊢;have hY:=szB_ge hX e;obtain ⟨Y,hYe⟩ : ∃ Y,Y = szB X e:=⟨_,rfl⟩;rw [← hYe] at hB hY ih ⊢;have ex : ∀ i : Nat,∃ v,i < t.f6.length → (1 ≤ v ∧ v ≤ Y) ∧ Ev (fun k => impl_tmplSize.f k C (rd_T46 t.f6 (i : Int)).f0 (rd_T46 t.f6 (i : Int)).f1 (rd_T46 t.f6 (i : Int)).f2 (rd_T46 t.f6 (i : Int)).f3 (rd_T46 t.f6 (i : Int)).f4 (rd_T46 t.f6 (i : Int)).f5 (rd_T46 t.f6 (i : Int)).f6) v ∧
    ∀ xs : List Int,xs.length = C.length → (∀ j : Nat,at' < (j : Int) → j < C.length → rd xs (j : Int) = mn (s j) 201) → Ev (fun k => spec_sizeOf.f k (rd_T46 t.f6 (i : Int)).f0 (rd_T46 t.f6 (i : Int)).f1 (rd_T46 t.f6 (i : Int)).f2 (rd_T46 t.f6 (i : Int)).f3 (rd_T46 t.f6 (i : Int)).f4 (rd_T46 t.f6 (i : Int)).f5 (rd_T46 t.f6 (i : Int)).f6 xs) (mn v 201):=by
   intro i
   by_cases hi : i < t.f6.length
   ·obtain ⟨v,g⟩:=ih _ (rd46_mem hi) (by omega)
    exact ⟨v,fun _ => g⟩
   ·exact ⟨1,fun h => absurd h hi⟩
  obtain ⟨p,hp⟩:=Classical.skolem.mp ex;have L1 : ∀ fin : Int → Int,(∀ a,0 ≤ a → a ≤ (t.f6.length : Int) * Y → Ev (fun k => impl_tmplSize.l0 k C a t.f6 (t.f6.length : Int) (t.f6.length : Int) t.f0 t.f1 t.f2 t.f3 t.f4 t.f5 t.f6) (fin a)) →
    ∀ d i (a : Int),i + d = t.f6.length → 0 ≤ a → a + (d : Int) * Y ≤ (t.f6.length : Int) * Y → Ev (fun k => impl_tmplSize.l0 k C a t.f6 (t.f6.length : Int) (i : Int) t.f0 t.f1 t.f2 t.f3 t.f4 t.f5 t.f6) (fin (a + sumFrom p d i)):=by
   intro fin last d
   induction d with
   | zero =>
    intro i a hi h0 h1
    obtain rfl : i = t.f6.length:=by omega
    simp only [sumFrom,Int.add_zero]
    exact last a h0 (by simpa using h1)
   | succ d ih =>
    intro i a hi h0 h1
    have hi' : i < t.f6.length:=by omega
    obtain ⟨g1,g2,-⟩:=hp i hi'
    have e1 : ((d + 1 : Nat) : Int) * Y = (d : Int) * Y + Y:=by rw [Int.natCast_add,Int.add_mul];simp
    have e2 : 0 ≤ (d : Int) * Y:=Int.mul_nonneg (by omega) (by omega);have e3 : (t.f6.length : Int) * Y ≤ 4 * Y:=Int.mul_le_mul_of_nonneg_right (by omega) (by omega)
    refine Ev.succ ?_
    simp only [impl_tmplSize.l0]
    refine Ev.pos (by omega) (Ev.pos (by omega) (Ev.pos (by omega) (Ev.bind g2 ?_)))
    rw [w64 (n:=a + p i) (by omega) (by omega),wnext hi' (by omega)];have:=ih (i + 1) (a + p i) (by omega) (by omega) (by omega);simp only [sumFrom];rw [show a + (p i + sumFrom p d (i + 1)) = a + p i + sumFrom p d (i + 1) from by omega]
    exact this
  have L2 : ∀ (xs : List Int) (c : Int),xs.length = C.length → (∀ j : Nat,at' < (j : Int) → j < C.length → rd xs (j : Int) = mn (s j) 201) → c = (if t.f0 = 3 then 4 else 1) → ∀ fin : Int → Int,(∀ a,0 ≤ a → a ≤ 10000 → Ev (fun k => spec_sizeOf.l0 k xs a (t.f6.length : Int) t.f0 t.f1 t.f2 t.f3 t.f4 t.f5 t.f6) (fin a)) →
    ∀ d i (a : Int),i + d = t.f6.length → 0 ≤ a → a + (d : Int) * 1000 ≤ 10000 → Ev (fun k => spec_sizeOf.l0 k xs a (i : Int) t.f0 t.f1 t.f2 t.f3 t.f4 t.f5 t.f6) (fin (a + sumFrom (fun j => mn (p j) 201 * c) d i)):=by
   intro xs c hx hxs hc fin last d
   induction d with
   | zero =>
    intro i a hi h0 h1
    obtain rfl : i = t.f6.length:=by omega
    simp only [sumFrom,Int.add_zero]
    exact last a h0 (by omega)
   | succ d ih =>
    intro i a hi h0 h1
    have hi' : i < t.f6.length:=by omega
    obtain ⟨g1,-,g2⟩:=hp i hi';have g3:=mn_is (p i)
    refine Ev.succ ?_
    simp only [spec_sizeOf.l0]
    refine Ev.pos (by omega) (Ev.pos (by omega) (Ev.bind (g2 xs hx hxs) ?_))
    simp only [sumFrom];rw [show a + (mn (p i) 201 * c + sumFrom (fun j => mn (p j) 201 * c) d (i + 1)) = a + mn (p i) 201 * c + sumFrom (fun j => mn (p j) 201 * c) d (i + 1) from by omega]
    by_cases c3 : t.f0 = 3
    ·rw [if_pos c3] at hc
     subst hc
     refine Ev.pos c3 ?_
     rw [w64 (n:=mn (p i) 201 * 4) (by omega) (by omega),w64 (n:=a + mn (p i) 201 * 4) (by omega) (by omega),wnext hi' (by omega)]
     exact ih (i + 1) _ (by omega) (by omega) (by omega)
    ·rw [if_neg c3] at hc
     subst hc
     refine Ev.neg c3 ?_
     rw [w64 (n:=a + mn (p i) 201) (by omega) (by omega),wnext hi' (by omega),Int.mul_one]
     exact ih (i + 1) _ (by omega) (by omega) (by omega)
  have hS:=sumFrom_in (Y:=Y) (n:=t.f6.length) (fun i hi => (hp i hi).1) t.f6.length 0 (by omega);have hS4 : (t.f6.length : Int) * Y ≤ 4 * Y:=Int.mul_le_mul_of_nonneg_right (by omega) (by omega)
  have cut:=fun c hc => sumFrom_cut (n:=t.f6.length) (p:=p) c hc (fun i hi => (hp i hi).1.1) t.f6.length 0 (by omega)
  by_cases c3 : t.f0 = 3
  ·have hl1:=h3 c3
   have hS1 : sumFrom p t.f6.length 0 ≤ Y:=by have:=hS.2;rw [hl1] at this ⊢;simpa using this
   refine ⟨sumFrom p t.f6.length 0 * 4 + 1,by omega,Ev.succ ?_,fun xs hx hxs => Ev.succ ?_⟩
   ·simp only [impl_tmplSize.f]
    refine Ev.val (L1 (fun a => a * 4 + 1) (fun a a0 a1 => Ev.succ ?_) t.f6.length 0 0 (by omega) (by omega) (by omega)) (by rw [Int.zero_add])
    simp only [impl_tmplSize.l0]
    refine Ev.neg (by omega) (Ev.pos c3 ?_)
    rw [w64 (n:=a * 4) (by omega) (by omega),w64 (n:=a * 4 + 1) (by omega) (by omega)]
    exact Ev.pure _
   ·simp only [spec_sizeOf.f]
    refine Ev.val (L2 xs 4 hx hxs (by rw [if_pos c3]) (fun a => mn a 201) (fun a a0 a1 => Ev.succ ?_) t.f6.length 0 1 (by omega) (by omega) (by omega)) ?_
    ·simp only [spec_sizeOf.l0]
     exact Ev.neg (by omega) (Ev.neg (by omega) (Ev.pure _))
    ·have:=cut 4 (Or.inr rfl)
     have m1:=mn_is (1 + sumFrom (fun j => mn (p j) 201 * 4) t.f6.length 0);have m2:=mn_is (sumFrom p t.f6.length 0 * 4 + 1)
     show mn _ 201 = _
     omega
  by_cases c4 : t.f0 = 4
  ·obtain ⟨⟨ht0,ht1⟩,hl0⟩:=h4 c4
   obtain ⟨j,hj⟩ : ∃ j : Nat,t.f1 = (j : Int):=⟨t.f1.toNat,by omega⟩;obtain ⟨g1,g2⟩:=hs j (by omega) (by omega);rw [← hj] at g2
   refine ⟨s j + 1,by omega,Ev.succ ?_,fun xs hx hxs => Ev.succ ?_⟩
   ·simp only [impl_tmplSize.f]
    refine Ev.succ ?_
    simp only [impl_tmplSize.l0]
    refine Ev.neg (by omega) (Ev.neg c3 (Ev.pos c4 (Ev.pos (by omega) (Ev.pos (by omega) (Ev.bind g2 ?_)))))
    rw [w64 (n:=0 + s j) (by omega) (by omega),w64 (n:=0 + s j + 1) (by omega) (by omega),Int.zero_add]
    exact Ev.pure _
   ·simp only [spec_sizeOf.f]
    refine Ev.succ ?_
    simp only [spec_sizeOf.l0];have m1:=mn_is (s j);have m2:=mn_is (s j + 1);have m3:=mn_is (1 + rd xs t.f1);have m4:=hxs j (by omega) (by omega);rw [← hj] at m4
    refine Ev.neg (by omega) (Ev.pos c4 (Ev.bind (inRange_ev _ _ _) (Ev.pos ?_ (Ev.pos (by omega) (Ev.pos (by omega) ?_)))))
    ·rw [w64 (n:=(xs.length : Int) - 1) (by omega) (by omega),decide_eq_true_eq];omega
    ·rw [w64 (n:=1 + rd xs t.f1) (by omega) (by omega)]
     exact Ev.val (Ev.pure _) (by omega)
  ·refine ⟨sumFrom p t.f6.length 0 + 1,by omega,Ev.succ ?_,fun xs hx hxs => Ev.succ ?_⟩
   ·simp only [impl_tmplSize.f]
    refine Ev.val (L1 (fun a => a + 1) (fun a a0 a1 => Ev.succ ?_) t.f6.length 0 0 (by omega) (by omega) (by omega)) (by rw [Int.zero_add])
    simp only [impl_tmplSize.l0]
    refine Ev.neg (by omega) (Ev.neg c3 (Ev.neg c4 ?_))
    rw [w64 (n:=a + 1) (by omega) (by omega)]
    exact Ev.pure _
   ·simp only [spec_sizeOf.f]
    refine Ev.val (L2 xs 1 hx hxs (by rw [if_neg c3]) (fun a => mn a 201) (fun a a0 a1 => Ev.succ ?_) t.f6.length 0 1 (by omega) (by omega) (by omega)) ?_
    ·simp only [spec_sizeOf.l0]
     exact Ev.neg (by omega) (Ev.neg c4 (Ev.pure _))
    ·have:=cut 1 (Or.inl rfl)
     have m1:=mn_is (1 + sumFrom (fun j => mn (p j) 201 * 1) t.f6.length 0);have m2:=mn_is (sumFrom p t.f6.length 0 + 1)
     show mn _ 201 = _
     omega
def DrT (C : List S48) (l : List Int) (a2 a3 a4 a f : Int) : Prop:=∃ (r : S46) (a' f' : Int),Ev (fun k => spec_source_tmpl.f k l a f C a2 a3 a4) (r.f0,r.f1,r.f2,r.f3,r.f4,r.f5,r.f6,a',f') ∧ TS r ∧ Src l a' f'
theorem app_FS {l : List (List S70)} {x : List S70} (h : ∀ f ∈ l,FS f) (g : FS x) : ∀ f ∈ l ++ [x],FS f:=by
 intro f hf
 rcases List.mem_append.1 hf with hf | hf
 ·exact h f hf
 ·rw [List.mem_singleton.1 hf];exact g
theorem one_FS {x : List S70} (g : FS x) : ∀ f ∈ [x],FS f:=fun f hf => by rw [List.mem_singleton.1 hf];exact g
theorem kids_l {C : List S48} {l : List Int} {a2 a3 : Int} (h3 : 0 ≤ a3 ∧ a3 ≤ 100) (T : ∀ a4 a f,Src l a f → DrT C l a2 (a3 + 1) a4 a f) (a4 x6 : Int) : ∀ (n : Nat) (acc : List S46) (a f : Int),Src l a f → acc.length + n ≤ 10 → (∀ x ∈ acc,TS x) →
  ∃ r a' f',Ev (fun k => spec_source_kidsOf.l0 k C a2 a3 a4 (n : Int) x6 acc l a f) (r,a',f') ∧ r.length ≤ acc.length + n ∧ (∀ x ∈ r,TS x) ∧ Src l a' f':=by
 intro n
 induction n with
 | zero =>
  intro acc a f h hn hx
  refine ⟨acc,a,f,Ev.succ ?_,by omega,hx,h⟩
  simp only [spec_source_kidsOf.l0]
  exact Ev.neg (by omega) (Ev.pure _)
 | succ n ih =>
  intro acc a f h hn hx
  obtain ⟨t,a1,f1,e1,g1,s1⟩:=T (wrap64 (a4 + x6)) a f h;obtain ⟨r,a',f',e2,g2,g3,s2⟩:=ih (acc ++ [t]) a1 f1 s1 (by simp;omega) (by intro q hq;rcases List.mem_append.1 hq with hq | hq;exact hx q hq;rw [List.mem_singleton.1 hq];exact g1)
  refine ⟨r,a',f',Ev.succ ?_,by simp at g2;omega,g3,s2⟩
  simp only [spec_source_kidsOf.l0];rw [w64 (n:=a3 + 1) (by omega) (by omega)]
  refine Ev.pos (by omega) (Ev.bind e1 (Ev.pos (by omega) ?_))
  rw [show wrap64 (((n + 1 : Nat) : Int) - 1) = (n : Int) from by rw [w64 (by omega) (by omega)];omega]
  cases t;exact e2
theorem kids_ev {C : List S48} {l : List Int} {a2 a3 : Int} (h3 : 0 ≤ a3 ∧ a3 ≤ 100) (T : ∀ a4 a f,Src l a f → DrT C l a2 (a3 + 1) a4 a f) (a4 x6 n : Int) (h0 : 0 ≤ n ∧ n ≤ 10) {a f : Int} (h : Src l a f) :
  ∃ r a' f',Ev (fun k => spec_source_kidsOf.l0 k C a2 a3 a4 n x6 [] l a f) (r,a',f') ∧ (r.length : Int) ≤ n ∧ (∀ x ∈ r,TS x) ∧ Src l a' f':=by
 obtain ⟨n,rfl⟩ : ∃ m : Nat,n = m:=⟨n.toNat,by omega⟩;obtain ⟨r,a',f',e,g1,g2,s⟩:=kids_l h3 T a4 x6 n [] a f h (by simp;omega) (by simp)
 exact ⟨r,a',f',e,by simp at g1;omega,g2,s⟩
theorem ons_l {l : List Int} (c0 : Int) (c1 : List S67) (c2 : List (List S57)) (b0 b1 : Int) (b2 : List Int) (b3 : List (List S70)) (b4 : List S70) (b5 : List S76) (b6 : List S46) (z0 z1 : Int) (nm : List Int) (ar : List (List S70)) (kids : List S46) (hc : c2.length ≤ 10) :
  ∀ (d : Nat) (i : Nat) (on : List S76) (a f : Int),i + d = 3 → Src l a f → on.length ≤ i → ∃ r a' f',Ev (fun k => spec_source_tmpl.l2 k (i : Int) l a f c0 c1 c2 b0 b1 b2 b3 b4 b5 b6 z0 z1 nm ar on kids) (z0,z1,nm,ar,[],r,kids,a',f') ∧ r.length ≤ 3 ∧ Src l a' f':=by
 intro d
 induction d with
 | zero =>
  intro i on a f hi h hn
  refine ⟨on,a,f,Ev.succ ?_,by omega,h⟩
  simp only [spec_source_tmpl.l2]
  refine Ev.neg (by omega) (Ev.succ ?_)
  simp only [spec_source_tmpl.j5]
  exact Ev.neg (by simp) (Ev.pure _)
 | succ d ih =>
  intro i on a f hi h hn
  by_cases c : (c2.length : Int) > 0
  ·obtain ⟨v,a1,f1,e1,-,-,s1⟩:=pick_ev 3 h
   have nx : wrap64 ((i : Int) + 1) = ((i + 1 : Nat) : Int):=by rw [w64 (by omega) (by omega)];omega
   by_cases cv : v = 0
   ·obtain ⟨w,a2,f2,e2,-,-,s2⟩:=pick_ev (c2.length : Int) s1
    obtain ⟨r,a',f',e3,g,s3⟩:=ih (i + 1) (on ++ [⟨(i : Int),w⟩]) a2 f2 (by omega) s2 (by simp;omega)
    refine ⟨r,a',f',Ev.succ ?_,g,s3⟩
    simp only [spec_source_tmpl.l2]
    refine Ev.pos (by omega) (Ev.succ ?_)
    simp only [spec_source_tmpl.j5]
    refine Ev.pos (by simpa using c) (Ev.bind e1 (Ev.pos cv (Ev.bind e2 (Ev.pos (by omega) ?_))))
    rw [nx];exact e3
   ·obtain ⟨r,a',f',e3,g,s3⟩:=ih (i + 1) on a1 f1 (by omega) s1 (by omega)
    refine ⟨r,a',f',Ev.succ ?_,g,s3⟩
    simp only [spec_source_tmpl.l2]
    refine Ev.pos (by omega) (Ev.succ ?_)
    simp only [spec_source_tmpl.j5]
    refine Ev.pos (by simpa using c) (Ev.bind e1 (Ev.neg cv ?_))
    rw [nx];exact e3
  ·refine ⟨on,a,f,Ev.succ ?_,by omega,h⟩
   simp only [spec_source_tmpl.l2]
   refine Ev.pos (by omega) (Ev.succ ?_)
   simp only [spec_source_tmpl.j5]
   exact Ev.neg (by simpa using c) (Ev.pure _)
theorem names_l {l : List Int} (a4 : Int) (c0 : Int) (c1 : List S67) (c2 : List (List S57)) (b0 b1 : Int) (b2 : List Int) (b3 : List (List S70)) (b4 : List S70) (b5 : List S76) (b6 : List S46) (z0 z1 : Int) (kids : List S46) (hc : c2.length ≤ 10) :
  ∀ (d : Nat) (i : Nat) (nm : List Int) (ar : List (List S70)) (a f : Int),i + d = 4 → Src l a f → nm.length ≤ i → ar.length ≤ i → (∀ f ∈ ar,FS f) → ∃ r q on a' f',Ev (fun k => spec_source_tmpl.l1 k a4 (i : Int) l a f c0 c1 c2 b0 b1 b2 b3 b4 b5 b6 z0 z1 nm ar kids) (z0,z1,r,q,[],on,kids,a',f') ∧ r.length ≤ 4 ∧ q.length ≤ 4 ∧ (∀ f ∈ q,FS f) ∧ on.length ≤ 3 ∧ Src l a' f':=by
 intro d
 induction d with
 | zero =>
  intro i nm ar a f hi h hn ha hf
  obtain ⟨on,a',f',e,g,s⟩:=ons_l c0 c1 c2 b0 b1 b2 b3 b4 b5 b6 z0 z1 nm ar kids hc 3 0 [] a f rfl h (by simp)
  refine ⟨nm,ar,on,a',f',Ev.succ ?_,by omega,by omega,hf,g,s⟩
  simp only [spec_source_tmpl.l1]
  exact Ev.neg (by omega) e
 | succ d ih =>
  intro i nm ar a f hi h hn ha hf
  obtain ⟨v,a1,f1,e1,-,-,s1⟩:=pick_ev 3 h
  have nx : wrap64 ((i : Int) + 1) = ((i + 1 : Nat) : Int):=by rw [w64 (by omega) (by omega)];omega
  by_cases cv : v = 0
  ·obtain ⟨w,a2,f2,e2,gw,s2⟩:=formOf_ev c0 c1 c2 b0 b1 b2 b3 b4 b5 b6 a4 3 (by omega) s1
   obtain ⟨r,q,on,a',f',e3,g1,g2,g3,g4,s3⟩:=ih (i + 1) (nm ++ [(i : Int)]) (ar ++ [w]) a2 f2 (by omega) s2 (by simp;omega) (by simp;omega) (app_FS hf gw)
   refine ⟨r,q,on,a',f',Ev.succ ?_,g1,g2,g3,g4,s3⟩
   simp only [spec_source_tmpl.l1]
   refine Ev.pos (by omega) (Ev.bind e1 (Ev.pos cv (Ev.pos (by omega) (Ev.bind e2 (Ev.pos (by omega) ?_)))))
   rw [nx];exact e3
  ·obtain ⟨r,q,on,a',f',e3,g1,g2,g3,g4,s3⟩:=ih (i + 1) nm ar a1 f1 (by omega) s1 (by omega) (by omega) hf
   refine ⟨r,q,on,a',f',Ev.succ ?_,g1,g2,g3,g4,s3⟩
   simp only [spec_source_tmpl.l1]
   refine Ev.pos (by omega) (Ev.bind e1 (Ev.neg cv ?_))
   rw [nx];exact e3
theorem args_l {l : List Int} (a4 : Int) (c0 : Int) (c1 : List S67) (c2 : List (List S57)) (b0 b1 : Int) (b2 : List Int) (b3 : List (List S70)) (b4 : List S70) (b5 : List S76) (b6 : List S46) (z0 z1 : Int) :
  ∀ (n : Nat) (ar : List (List S70)) (a f : Int),ar.length + n ≤ 10 → Src l a f → (∀ f ∈ ar,FS f) → ∃ q a' f',Ev (fun k => spec_source_tmpl.l0 k a4 (n : Int) l a f c0 c1 c2 b0 b1 b2 b3 b4 b5 b6 z0 z1 ar) (z0,z1,[],q,[],[],[],a',f') ∧ q.length ≤ 10 ∧ (∀ f ∈ q,FS f) ∧ Src l a' f':=by
 intro n
 induction n with
 | zero =>
  intro ar a f hn h hf
  refine ⟨ar,a,f,Ev.succ ?_,by omega,hf,h⟩
  simp only [spec_source_tmpl.l0]
  exact Ev.neg (by omega) (Ev.pure _)
 | succ n ih =>
  intro ar a f hn h hf
  obtain ⟨w,a2,f2,e2,gw,s2⟩:=formOf_ev c0 c1 c2 b0 b1 b2 b3 b4 b5 b6 a4 3 (by omega) h;obtain ⟨q,a',f',e3,g1,g2,s3⟩:=ih (ar ++ [w]) a2 f2 (by simp;omega) s2 (app_FS hf gw)
  refine ⟨q,a',f',Ev.succ ?_,g1,g2,s3⟩
  simp only [spec_source_tmpl.l0]
  refine Ev.pos (by omega) (Ev.bind e2 (Ev.pos (by omega) ?_))
  rw [show wrap64 (((n + 1 : Nat) : Int) - 1) = (n : Int) from by rw [w64 (by omega) (by omega)];omega]
  exact e3
theorem rd48_mem {C : List S48} {i : Int} (h0 : 0 ≤ i) (h1 : i < (C.length : Int)) : rd_T48 C i ∈ C:=by
 have h : i.toNat < C.length:=by omega
 unfold rd_T48
 rw [List.getD_eq_getElem?_getD,List.getElem?_eq_getElem h]
 exact List.getElem_mem h
theorem TS_plain {x : List S70} (g : FS x) (kd tag : Int) (kids : List S46) (hk : kids.length ≤ 10) (ht : ∀ x ∈ kids,TS x) : TS ⟨kd,tag,[],[x],[],[],kids⟩:=
 TS.mk _ (by simp) (by simp) (one_FS g) FS_nil (by simp) hk ht
theorem tmpl_ev {C : List S48} {l : List Int} {a2 : Int} (hC : C.length ≤ 4) (h2 : 0 ≤ a2 ∧ a2 < (C.length : Int)) (hc : ∀ c ∈ C,(0 ≤ c.f0 ∧ c.f0 ≤ 4) ∧ c.f2.length ≤ 10) :
  ∀ (d : Nat) (a3 : Int),a3 = 4 - (d : Int) → 0 ≤ a3 → ∀ a4 a f,Src l a f → DrT C l a2 a3 a4 a f:=by
 intro d
 induction d with
 | zero =>
  intro a3 h3 h3' a4 a f h
  obtain ⟨w,a1,f1,e1,g1,s1⟩:=formOf_ev (rd_T48 C a2).f0 (rd_T48 C a2).f1 (rd_T48 C a2).f2 (rd_T48 C a2).f3.f0 (rd_T48 C a2).f3.f1 (rd_T48 C a2).f3.f2 (rd_T48 C a2).f3.f3 (rd_T48 C a2).f3.f4 (rd_T48 C a2).f3.f5 (rd_T48 C a2).f3.f6 a4 3 (by omega) h
  refine ⟨⟨0,0,[],[w],[],[],[]⟩,a1,f1,Ev.succ ?_,TS_plain g1 _ _ _ (by simp) (by simp),s1⟩
  simp only [spec_source_tmpl.f]
  exact Ev.pos h2.1 (Ev.pos h2.2 (Ev.pos (by omega) (Ev.bind e1 (Ev.pure _))))
 | succ d ih =>
  intro a3 h3 h3' a4 a f h
  have T:=ih (a3 + 1) (by omega) (by omega);obtain ⟨v,a1,f1,e1,v0,v1,s1⟩:=pick_ev 9 h
  have F:=fun (n : Int) (hn : n ≤ 100) {a f : Int} (h : Src l a f) => formOf_ev (rd_T48 C a2).f0 (rd_T48 C a2).f1 (rd_T48 C a2).f2 (rd_T48 C a2).f3.f0 (rd_T48 C a2).f3.f1 (rd_T48 C a2).f3.f2 (rd_T48 C a2).f3.f3 (rd_T48 C a2).f3.f4 (rd_T48 C a2).f3.f5 (rd_T48 C a2).f3.f6 a4 n hn h
  have J2 : ∀ a f,Src l a f → ∃ (r : S46) (a' f' : Int),Ev (fun k => spec_source_tmpl.j2 k C a2 a3 a4 l a f (rd_T48 C a2).f0 (rd_T48 C a2).f1 (rd_T48 C a2).f2 (rd_T48 C a2).f3.f0 (rd_T48 C a2).f3.f1 (rd_T48 C a2).f3.f2 (rd_T48 C a2).f3.f3 (rd_T48 C a2).f3.f4 (rd_T48 C a2).f3.f5 (rd_T48 C a2).f3.f6) (r.f0,r.f1,r.f2,r.f3,r.f4,r.f5,r.f6,a',f') ∧ TS r ∧ Src l a' f':=by
   intro a f h
   obtain ⟨v,a1,f1,e1,-,-,s1⟩:=pick_ev 5 h;obtain ⟨w,a2',f2,e2,w0,w1,s2⟩:=pick_ev 4 s1;obtain ⟨ks,a3',f3,e3,g3,g3',s3⟩:=kids_ev (by omega) T a4 0 w (by omega) s2;obtain ⟨nm,ar,on,a',f',e4,g4,g5,g6,g7,s4⟩:=names_l a4 (rd_T48 C a2).f0 (rd_T48 C a2).f1 (rd_T48 C a2).f2 (rd_T48 C a2).f3.f0 (rd_T48 C a2).f3.f1 (rd_T48 C a2).f3.f2 (rd_T48 C a2).f3.f3 (rd_T48 C a2).f3.f4 (rd_T48 C a2).f3.f5 (rd_T48 C a2).f3.f6 1 v ks (hc _ (rd48_mem h2.1 h2.2)).2 4 0 [] [] a3' f3 rfl s3 (by simp) (by simp) (by simp)
   refine ⟨⟨1,v,nm,ar,[],on,ks⟩,a',f',Ev.succ ?_,TS.mk _ (show nm.length ≤ 10 by omega) (show ar.length ≤ 10 by omega) g6 FS_nil (show on.length ≤ 10 by omega) (show ks.length ≤ 10 by omega) g3',s4⟩
   simp only [spec_source_tmpl.j2]
   exact Ev.bind e1 (Ev.bind e2 (Ev.bind e3 e4))
  by_cases c0 : v = 0
  ·obtain ⟨w,a2',f2,e2,g2,s2⟩:=F 3 (by omega) s1
   obtain ⟨n,a3',f3,e3,n0,n1,s3⟩:=pick_ev 2 s2;obtain ⟨ks,a',f',e4,g4,g4',s4⟩:=kids_ev (by omega) T a4 0 (1 + n) (by omega) s3
   refine ⟨⟨2,0,[],[w],[],[],ks⟩,a',f',Ev.succ ?_,TS_plain g2 _ _ _ (by omega) g4',s4⟩
   simp only [spec_source_tmpl.f]
   refine Ev.pos h2.1 (Ev.pos h2.2 (Ev.neg (by omega) (Ev.bind e1 (Ev.pos c0 (Ev.bind e2 (Ev.bind e3 (Ev.bind (a:=(ks,a',f')) ?_ (Ev.pure _))))))))
   rw [w64 (n:=1 + n) (by omega) (by omega)];exact e4
  by_cases c1 : v = 1
  ·obtain ⟨w,a2',f2,e2,g2,s2⟩:=small_ev (rd_T48 C a2).f0 (((rd_T48 C a2).f1).length : Int) a4 s1
   obtain ⟨ks,a3',f3,e3,g3,g3',s3⟩:=kids_ev (by omega) T a4 1 1 (by omega) s2;obtain ⟨n,a4',f4,e4,n0,n1,s4⟩:=pick_ev 2 s3
   by_cases cn : n = 0
   ·obtain ⟨y,a5,f5,e5,g5,s5⟩:=form_ev (rd_T48 C a2).f0 (((rd_T48 C a2).f1).length : Int) (wrap64 (a4 + 1)) 5 (by omega) s4
    refine ⟨⟨3,0,[],[w],y,[],ks⟩,a5,f5,Ev.succ ?_,TS.mk _ (by simp) (by simp) (one_FS g2) g5 (by simp) (show ks.length ≤ 10 by omega) g3',s5⟩
    simp only [spec_source_tmpl.f]
    exact Ev.pos h2.1 (Ev.pos h2.2 (Ev.neg (by omega) (Ev.bind e1 (Ev.neg c0 (Ev.pos c1 (Ev.bind e2 (Ev.bind (Ev.pure _) (Ev.bind e3 (Ev.bind e4 (Ev.pos cn (Ev.bind e5 (Ev.pure _))))))))))))
   ·refine ⟨⟨3,0,[],[w],[],[],ks⟩,a4',f4,Ev.succ ?_,TS_plain g2 _ _ _ (by omega) g3',s4⟩
    simp only [spec_source_tmpl.f]
    exact Ev.pos h2.1 (Ev.pos h2.2 (Ev.neg (by omega) (Ev.bind e1 (Ev.neg c0 (Ev.pos c1 (Ev.bind e2 (Ev.bind (Ev.pure _) (Ev.bind e3 (Ev.bind e4 (Ev.neg cn (Ev.pure _)))))))))))
  have J0 : ∃ (r : S46) (a' f' : Int),Ev (fun k => spec_source_tmpl.j0 k C a2 a3 a4 v (if v = 2 then v == 2 else v == 3) l a1 f1 (rd_T48 C a2).f0 (rd_T48 C a2).f1 (rd_T48 C a2).f2 (rd_T48 C a2).f3.f0 (rd_T48 C a2).f3.f1 (rd_T48 C a2).f3.f2 (rd_T48 C a2).f3.f3 (rd_T48 C a2).f3.f4 (rd_T48 C a2).f3.f5 (rd_T48 C a2).f3.f6) (r.f0,r.f1,r.f2,r.f3,r.f4,r.f5,r.f6,a',f') ∧ TS r ∧ Src l a' f':=by
   generalize (if v = 2 then v == 2 else v == 3) = b
   cases b with
   | true =>
    by_cases c : wrap64 (a2 + 1) < (C.length : Int)
    ·rw [w64 (by omega) (by omega)] at c
     obtain ⟨n,a2',f2,e2,n0,n1,s2⟩:=pick_ev ((C.length : Int) - a2 - 1) s1;obtain ⟨q,hq⟩ : ∃ q : Nat,(rd_T48 C (a2 + 1 + n)).f0 = q:=⟨((rd_T48 C (a2 + 1 + n)).f0).toNat,by have:=(hc _ (rd48_mem (i:=a2 + 1 + n) (by omega) (by omega))).1;omega⟩
     have hq4 : q ≤ 4:=by have:=(hc _ (rd48_mem (i:=a2 + 1 + n) (by omega) (by omega))).1;omega
     obtain ⟨ar,a',f',e3,g1,g2,s3⟩:=args_l a4 (rd_T48 C a2).f0 (rd_T48 C a2).f1 (rd_T48 C a2).f2 (rd_T48 C a2).f3.f0 (rd_T48 C a2).f3.f1 (rd_T48 C a2).f3.f2 (rd_T48 C a2).f3.f3 (rd_T48 C a2).f3.f4 (rd_T48 C a2).f3.f5 (rd_T48 C a2).f3.f6 4 (a2 + 1 + n) q [] a2' f2 (by simp;omega) s2 (by simp)
     refine ⟨⟨4,a2 + 1 + n,[],ar,[],[],[]⟩,a',f',Ev.succ ?_,TS.mk _ (by simp) g1 g2 FS_nil (by simp) (by simp) (by simp),s3⟩
     simp only [spec_source_tmpl.j0];rw [w64 (n:=a2 + 1) (by omega) (by omega),w64 (n:=(C.length : Int) - a2) (by omega) (by omega),w64 (n:=(C.length : Int) - a2 - 1) (by omega) (by omega)]
     refine Ev.pos trivial (Ev.pos c (Ev.bind e2 ?_))
     simp only [];rw [w64 (n:=a2 + 1 + n) (by omega) (by omega),hq]
     exact Ev.pos (by omega) (Ev.pos (by omega) e3)
    ·obtain ⟨r,a',f',e2,g,s⟩:=J2 a1 f1 s1
     refine ⟨r,a',f',Ev.succ ?_,g,s⟩
     simp only [spec_source_tmpl.j0]
     exact Ev.pos trivial (Ev.neg c e2)
   | false =>
    by_cases c4 : v = 4
    ·obtain ⟨x,a2',f2,e2,-,-,s2⟩:=pick_ev 2 s1
     obtain ⟨w,a3',f3,e3,g3,s3⟩:=F 3 (by omega) s2;obtain ⟨n,a4',f4,e4,n0,n1,s4⟩:=pick_ev 3 s3;obtain ⟨ks,a',f',e5,g5,g5',s5⟩:=kids_ev (by omega) T a4 0 n (by omega) s4
     refine ⟨⟨5,x,[],[w],[],[],ks⟩,a',f',Ev.succ ?_,TS_plain g3 _ _ _ (by omega) g5',s5⟩
     simp only [spec_source_tmpl.j0]
     exact Ev.neg (by simp) (Ev.pos c4 (Ev.bind e2 (Ev.bind e3 (Ev.bind e4 (Ev.bind e5 (Ev.pure _))))))
    by_cases c5 : v = 5
    ·obtain ⟨w,a3',f3,e3,g3,s3⟩:=F 5 (by omega) s1
     refine ⟨⟨0,0,[],[w],[],[],[]⟩,a3',f3,Ev.succ ?_,TS_plain g3 _ _ _ (by simp) (by simp),s3⟩
     simp only [spec_source_tmpl.j0]
     exact Ev.neg (by simp) (Ev.neg c4 (Ev.pos c5 (Ev.bind e3 (Ev.pure _))))
    ·obtain ⟨r,a',f',e2,g,s⟩:=J2 a1 f1 s1
     refine ⟨r,a',f',Ev.succ ?_,g,s⟩
     simp only [spec_source_tmpl.j0]
     exact Ev.neg (by simp) (Ev.neg c4 (Ev.neg c5 e2))
  obtain ⟨r,a',f',e2,g,s⟩:=J0
  refine ⟨r,a',f',Ev.succ ?_,g,s⟩
  simp only [spec_source_tmpl.f]
  refine Ev.pos h2.1 (Ev.pos h2.2 (Ev.neg (by omega) (Ev.bind e1 (Ev.neg c0 (Ev.neg c1 ?_)))))
  by_cases c2 : v = 2
  ·rw [if_pos c2] at e2
   exact Ev.pos c2 e2
  ·rw [if_neg c2] at e2
   exact Ev.neg c2 e2
def PS (C : List S48) : Prop:=1 ≤ C.length ∧ C.length ≤ 4 ∧ ∀ c ∈ C,CS c
def CS3 (c : S48) : Prop:=CS c ∧ 0 ≤ c.f0 ∧ c.f0 ≤ 3
theorem app_all {α : Type} {P : α → Prop} {l : List α} {x : α} (h : ∀ c ∈ l,P c) (g : P x) : ∀ c ∈ l ++ [x],P c:=by
 intro f hf
 rcases List.mem_append.1 hf with hf | hf
 ·exact h f hf
 ·rw [List.mem_singleton.1 hf];exact g
theorem set_all {α : Type} {P : α → Prop} {l : List α} {x : α} (i : Nat) (h : ∀ c ∈ l,P c) (g : P x) : ∀ c ∈ l.set i x,P c:=by
 intro f hf
 rcases List.mem_or_eq_of_mem_set hf with hf | hf
 ·exact h f hf
 ·rw [hf];exact g
theorem eta46 (t : S46) : (⟨t.f0,t.f1,t.f2,t.f3,t.f4,t.f5,t.f6⟩ : S46) = t:=by cases t;rfl
theorem TS_body (a b : Int) : TS ⟨a,b,[],[],[],[],[]⟩:=TS.mk _ (by simp) (by simp) (by simp) FS_nil (by simp) (by simp) (by simp)
section
variable (hv : ∀ C : List S48,PS C → ∃ b,Ev (fun k => spec_validProg.f k C) b)
def DrP (F : Nat → Option (List S48 × Int × Int)) (l : List Int) : Prop:=∃ r a' f',Ev F (r,a',f') ∧ PS r ∧ Src l a' f'
theorem prog_j7 {l : List Int} {C : List S48} (h : PS C) {a f : Int} (s : Src l a f) : DrP (fun k => spec_source_prog.j7 k C l a f) l:=by
 obtain ⟨v,a1,f1,e1,v0,v1,s1⟩:=pick_ev 40 s
 have er : Ev (fun k => spec_source_rarely.f k l a f) (v == 1,a1,f1):=by
  simp only [spec_source_rarely.f]
  exact Ev.bind e1 (Ev.pure _)
 cases hb : (v == 1) with
 | false =>
  rw [hb] at er
  refine ⟨C,a1,f1,Ev.succ ?_,h,s1⟩
  simp only [spec_source_prog.j7]
  exact Ev.bind er (Ev.neg (by simp) (Ev.pure _))
 | true =>
  rw [hb] at er;obtain ⟨h0,h1,h2⟩:=h;obtain ⟨n,a2,f2,e2,n0,n1,s2⟩:=pick_ev (C.length : Int) s1;obtain ⟨w,a3,f3,e3,g3,s3⟩:=one_tells [-1,1,3,4] (by simp) s2 1 (by omega)
  have e3' : Ev (fun k => spec_source_one.f k l a2 f2 [-1,1,3,4]) (w,a3,f3):=by
   obtain ⟨u,a4,f4,e4,-,-,-⟩:=pick_ev (([-1,1,3,4] : List Int).length : Int) s2
   refine Ev.of_mono (K:=1) (fun k => ?_) e3
   intro q hq
   revert hq
   unfold spec_source_one.f
   intro hq
   cases hp : spec_source_pick.f k l a2 f2 (([-1,1,3,4] : List Int).length : Int) with
   | none => rw [hp] at hq;exact absurd hq (by simp)
   | some y =>
    rw [hp,bsome] at hq;rw [spec_source_pick.mono l a2 f2 _ k y hp,bsome];exact hq
  have hn : n < (C.length : Int):=by omega
  have hw : -1 ≤ w ∧ w ≤ 4:=by
   simp at g3
   omega
  obtain ⟨c0,c1,c2,c3,c4,c5⟩:=h2 _ (rd48_mem n0 hn)
  refine ⟨C.set n.toNat ⟨w,(rd_T48 C n).f1,(rd_T48 C n).f2,(rd_T48 C n).f3⟩,a3,f3,Ev.succ ?_,⟨by simpa using h0,by simpa using h1,set_all _ h2 ⟨hw,c1,c2,c3,c4,c5⟩⟩,s3⟩
  simp only [spec_source_prog.j7,eta46]
  exact Ev.bind er (Ev.pos rfl (Ev.bind e2 (Ev.bind e3' (Ev.pos n0 (Ev.pos hn (Ev.pure _))))))
include hv
theorem prog_l4 {l : List Int} : ∀ (d : Nat) (C : List S48) (i : Nat) (a f : Int),PS C → i + d = C.length → Src l a f → DrP (fun k => spec_source_prog.l4 k C (i : Int) l a f) l:=by
 intro d
 induction d with
 | zero =>
  intro C i a f h hi s
  obtain ⟨r,a',f',e,g⟩:=prog_j7 h s
  refine ⟨r,a',f',Ev.succ ?_,g⟩
  simp only [spec_source_prog.l4]
  exact Ev.neg (by omega) e
 | succ d ih =>
  intro C i a f h hi s
  obtain ⟨b,eb⟩:=hv C h;obtain ⟨h0,h1,h2⟩:=h
  cases b with
  | true =>
   obtain ⟨r,a',f',e,g⟩:=prog_j7 ⟨h0,h1,h2⟩ s
   refine ⟨r,a',f',Ev.succ ?_,g⟩
   simp only [spec_source_prog.l4]
   exact Ev.pos (by omega) (Ev.bind eb (Ev.pos rfl e))
  | false =>
   obtain ⟨w,a1,f1,e1,g1,s1⟩:=form_ev (rd_T48 C (i : Int)).f0 (((rd_T48 C (i : Int)).f1).length : Int) 0 3 (by omega) s;obtain ⟨c0,c1,c2,c3,c4,c5⟩:=h2 _ (rd48_mem (i:=(i : Int)) (by omega) (by omega));obtain ⟨r,a',f',e,g⟩:=ih (C.set i ⟨(rd_T48 C (i : Int)).f0,(rd_T48 C (i : Int)).f1,(rd_T48 C (i : Int)).f2,⟨0,0,[],[w],[],[],[]⟩⟩) (i + 1) a1 f1 ⟨by simpa using h0,by simpa using h1,set_all _ h2 ⟨c0,c1,c2,c3,c4,TS_plain g1 _ _ _ (by simp) (by simp)⟩⟩ (by simp;omega) s1
   refine ⟨r,a',f',Ev.succ ?_,g⟩
   simp only [spec_source_prog.l4]
   refine Ev.pos (by omega) (Ev.bind eb (Ev.neg (by simp) (Ev.pos (by omega) (Ev.bind e1 ?_))))
   rw [show wrap64 ((i : Int) + 1) = ((i + 1 : Nat) : Int) from by rw [w64 (by omega) (by omega)];omega]
   exact e
theorem prog_l3 {l : List Int} : ∀ (m : Nat) (C : List S48) (a f : Int),1 ≤ C.length → C.length ≤ 4 → (∀ c ∈ C,CS3 c) → m ≤ C.length → Src l a f → DrP (fun k => spec_source_prog.l3 k C ((m : Int) - 1) l a f) l:=by
 intro m
 induction m with
 | zero =>
  intro C a f h0 h1 h2 hm s
  obtain ⟨r,a',f',e,g⟩:=prog_l4 hv C.length C 0 a f ⟨h0,h1,fun c hc => (h2 c hc).1⟩ (by omega) s
  refine ⟨r,a',f',Ev.succ ?_,g⟩
  simp only [spec_source_prog.l3]
  exact Ev.neg (by omega) e
 | succ m ih =>
  intro C a f h0 h1 h2 hm s
  have hi : ((m + 1 : Nat) : Int) - 1 = (m : Int):=by omega
  rw [hi];obtain ⟨t,a1,f1,e1,g1,s1⟩:=tmpl_ev (C:=C) (l:=l) (a2:=(m : Int)) h1 (by omega) (fun c hc => ⟨⟨(h2 c hc).2.1,by have:=(h2 c hc).2.2;omega⟩,(h2 c hc).1.2.2.2.1⟩) 3 1 (by omega) (by omega) 0 a f s;obtain ⟨⟨c0,c1,c2,c3,c4,c5⟩,c6⟩:=h2 _ (rd48_mem (i:=(m : Int)) (by omega) (by omega));obtain ⟨r,a',f',e,g⟩:=ih (C.set m ⟨(rd_T48 C (m : Int)).f0,(rd_T48 C (m : Int)).f1,(rd_T48 C (m : Int)).f2,t⟩) a1 f1 (by simpa using h0) (by simpa using h1) (set_all _ h2 ⟨⟨c0,c1,c2,c3,c4,g1⟩,c6⟩) (by simp;omega) s1
  refine ⟨r,a',f',Ev.succ ?_,g⟩
  simp only [spec_source_prog.l3]
  refine Ev.pos (by omega) (Ev.bind e1 (Ev.pos (by omega) (Ev.pos (by omega) ?_)))
  rw [w64 (n:=(m : Int) - 1) (by omega) (by omega)]
  cases t;exact e
omit hv in
theorem prog_l2 {l : List Int} {x3 : List S48} {x4 x6 x0 b0 b1 : Int} {st : List S67} {ac : List (List S57)} (hs : st.length ≤ 10) (ha : ac.length ≤ 10)
  (K : ∀ (x : List S57) (a f : Int),(x.length ≤ 10 ∧ ∀ s ∈ x,FS s.f1) → Src l a f → DrP (fun k => spec_source_prog.l1 k x3 x4 (wrap64 (x6 - 1)) l a f x0 st (ac ++ [x]) b0 b1) l) :
  ∀ (d : Nat) (i : Nat) (x : List S57) (a f : Int),i + d = st.length → x.length ≤ i → (∀ s ∈ x,FS s.f1) → Src l a f → DrP (fun k => spec_source_prog.l2 k x3 x4 x6 x (i : Int) l a f x0 st ac b0 b1) l:=by
 intro d
 have stop : ∀ (i : Nat) (x : List S57) (a f : Int),x.length ≤ 10 → (∀ s ∈ x,FS s.f1) → Src l a f → DrP (fun k => spec_source_prog.j4 k x3 x4 x6 x (i : Int) false l a f x0 st ac b0 b1) l:=by
  intro i x a f hx hf s
  obtain ⟨r,a',f',e,g⟩:=K x a f ⟨hx,hf⟩ s
  refine ⟨r,a',f',Ev.succ ?_,g⟩
  simp only [spec_source_prog.j4]
  exact Ev.neg (by simp) (Ev.pos (by omega) e)
 induction d with
 | zero =>
  intro i x a f hi hx hf s
  obtain ⟨r,a',f',e,g⟩:=stop i x a f (by omega) hf s
  refine ⟨r,a',f',Ev.succ ?_,g⟩
  simp only [spec_source_prog.l2]
  exact Ev.neg (by omega) e
 | succ d ih =>
  intro i x a f hi hx hf s
  obtain ⟨v,a1,f1,e1,-,-,s1⟩:=pick_ev 3 s
  by_cases c : v > 0
  ·obtain ⟨n,a2,f2,e2,-,-,s2⟩:=pick_ev (st.length : Int) s1
   obtain ⟨w,a3,f3,e3,g3,s3⟩:=form_ev 0 (st.length : Int) 0 5 (by omega) s2;obtain ⟨r,a',f',e,g⟩:=ih (i + 1) (x ++ [⟨n,w⟩]) a3 f3 (by omega) (by simp;omega) (app_all hf g3) s3
   refine ⟨r,a',f',Ev.succ ?_,g⟩
   simp only [spec_source_prog.l2]
   refine Ev.pos (by omega) (Ev.bind e1 (Ev.succ ?_))
   simp only [spec_source_prog.j4]
   refine Ev.pos (by simpa using c) (Ev.bind e2 (Ev.bind e3 (Ev.pos (by omega) ?_)))
   rw [show wrap64 ((i : Int) + 1) = ((i + 1 : Nat) : Int) from by rw [w64 (by omega) (by omega)];omega]
   exact e
  ·obtain ⟨r,a',f',e,g⟩:=stop i x a1 f1 (by omega) hf s1
   refine ⟨r,a',f',Ev.succ ?_,g⟩
   simp only [spec_source_prog.l2]
   refine Ev.pos (by omega) (Ev.bind e1 ?_)
   rw [show decide (v > 0) = false from by simpa using c]
   exact e
omit hv in
theorem prog_l1 {l : List Int} {x3 : List S48} {x4 x0 : Int} {st : List S67} (h3 : x3.length ≤ 10) (hs : st.length ≤ 10)
  (K : ∀ (ac : List (List S57)) (a f : Int),(ac.length ≤ 10 ∧ ∀ x ∈ ac,x.length ≤ 10 ∧ ∀ s ∈ x,FS s.f1) → Src l a f → DrP (fun k => spec_source_prog.l0 k (x3 ++ [⟨x0,st,ac,⟨0,0,[],[],[],[],[]⟩⟩]) (wrap64 (x4 - 1)) l a f) l) :
  ∀ (m : Nat) (ac : List (List S57)) (a f : Int),ac.length + m ≤ 10 → (∀ x ∈ ac,x.length ≤ 10 ∧ ∀ s ∈ x,FS s.f1) → Src l a f → DrP (fun k => spec_source_prog.l1 k x3 x4 (m : Int) l a f x0 st ac 0 0) l:=by
 intro m
 induction m with
 | zero =>
  intro ac a f hm ha s
  obtain ⟨r,a',f',e,g⟩:=K ac a f ⟨by omega,ha⟩ s
  refine ⟨r,a',f',Ev.succ ?_,g⟩
  simp only [spec_source_prog.l1]
  exact Ev.neg (by omega) (Ev.pos (by omega) e)
 | succ m ih =>
  intro ac a f hm ha s
  have nx : wrap64 (((m + 1 : Nat) : Int) - 1) = (m : Int):=by rw [w64 (by omega) (by omega)];omega
  obtain ⟨r,a',f',e,g⟩:=prog_l2 (x3:=x3) (x4:=x4) (x6:=((m + 1 : Nat) : Int)) (x0:=x0) (b0:=0) (b1:=0) (st:=st) (ac:=ac) hs (by omega) (fun x a f hx s => by rw [nx];exact ih (ac ++ [x]) a f (by simp;omega) (app_all ha hx) s) st.length 0 [] a f (by omega) (by simp) (by simp) s
  refine ⟨r,a',f',Ev.succ ?_,g⟩
  simp only [spec_source_prog.l1]
  exact Ev.pos (by omega) e
theorem prog_l0 {l : List Int} : ∀ (n : Nat) (x3 : List S48) (a f : Int),1 ≤ x3.length + n → x3.length + n ≤ 4 → (∀ c ∈ x3,CS3 c) → Src l a f → DrP (fun k => spec_source_prog.l0 k x3 (n : Int) l a f) l:=by
 intro n
 induction n with
 | zero =>
  intro x3 a f h0 h1 h2 s
  obtain ⟨r,a',f',e,g⟩:=prog_l3 hv x3.length x3 a f (by omega) (by omega) h2 (by omega) s
  refine ⟨r,a',f',Ev.succ ?_,g⟩
  simp only [spec_source_prog.l0]
  refine Ev.neg (by omega) ?_
  rw [w64 (n:=(x3.length : Int) - 1) (by omega) (by omega)]
  exact e
 | succ n ih =>
  intro x3 a f h0 h1 h2 s
  have nx : wrap64 (((n + 1 : Nat) : Int) - 1) = (n : Int):=by rw [w64 (by omega) (by omega)];omega
  obtain ⟨v,a1,f1,e1,v0,v1,s1⟩:=pick_ev 4 s;obtain ⟨st,a2,f2,e2,g2,g2',s2⟩:=goods_ev v v0 (by omega) s1
  have J1 : ∀ (x0 : Int) (a f : Int),0 ≤ x0 ∧ x0 ≤ 3 → Src l a f → DrP (fun k => spec_source_prog.j1 k x3 ((n + 1 : Nat) : Int) l a f x0 st 0 0) l:=by
   intro x0 a f hx s
   obtain ⟨w,a1,f1,e1,w0,w1,s1⟩:=pick_ev 4 s;obtain ⟨w,rfl⟩ : ∃ m : Nat,w = m:=⟨w.toNat,by omega⟩
   obtain ⟨r,a',f',e,g⟩:=prog_l1 (x3:=x3) (x4:=((n + 1 : Nat) : Int)) (x0:=x0) (st:=st) (by omega) (by omega) (fun ac a f ha s => by
    rw [nx]
    exact ih _ a f (by simp;omega) (by simp;omega) (app_all h2 ⟨⟨by constructor <;> simp only [] <;> omega,by simp only [];omega,g2',ha.1,ha.2,TS_body 0 0⟩,hx⟩) s) w [] a1 f1 (by simp;omega) (by simp) s1
   refine ⟨r,a',f',Ev.succ ?_,g⟩
   simp only [spec_source_prog.j1]
   exact Ev.bind e1 e
  by_cases c : (x3.length : Int) > 0
  ·obtain ⟨w,a3,f3,e3,w0,w1,s3⟩:=pick_ev 4 s2
   obtain ⟨r,a',f',e,g⟩:=J1 w a3 f3 (by omega) s3
   refine ⟨r,a',f',Ev.succ ?_,g⟩
   simp only [spec_source_prog.l0]
   exact Ev.pos (by omega) (Ev.bind e1 (Ev.bind e2 (Ev.pos c (Ev.bind e3 e))))
  ·obtain ⟨r,a',f',e,g⟩:=J1 0 a2 f2 (by omega) s2
   refine ⟨r,a',f',Ev.succ ?_,g⟩
   simp only [spec_source_prog.l0]
   exact Ev.pos (by omega) (Ev.bind e1 (Ev.bind e2 (Ev.neg c e)))
theorem prog_ev {l : List Int} {a f : Int} (s : Src l a f) : DrP (fun k => spec_source_prog.f k l a f) l:=by
 obtain ⟨v,a1,f1,e1,v0,v1,s1⟩:=pick_ev 4 s;obtain ⟨n,hn⟩ : ∃ m : Nat,1 + v = m:=⟨(1 + v).toNat,by omega⟩;obtain ⟨r,a',f',e,g⟩:=prog_l0 hv n [] a1 f1 (by simp;omega) (by simp;omega) (by simp) s1
 refine ⟨r,a',f',?_,g⟩
 simp only [spec_source_prog.f]
 refine Ev.bind e1 ?_
 rw [w64 (n:=1 + v) (by omega) (by omega),hn]
 exact e
end
theorem rdInt_set {xs : List Int} {i j : Nat} {v : Int} (hi : i < xs.length) : rd (xs.set i v) (j : Int) = if j = i then v else rd xs (j : Int):=by
 unfold rd
 rw [List.getD_eq_getElem?_getD,List.getD_eq_getElem?_getD,Int.toNat_natCast,List.getElem?_set]
 by_cases e : j = i
 ·subst e;rw [if_pos rfl,if_pos hi,if_pos rfl];rfl
 ·rw [if_neg (Ne.symm e),if_neg e]
def szX : Nat → Int
 | 0 => 0
 | m + 1 => szB (szX m) 4
theorem sizes_ok {C : List S48} (hC : C.length ≤ 4) (hf : ∀ j : Nat,j < C.length → TFit (C.length : Int) (j : Int) 4 (rd_T48 C (j : Int)).f3) :
  ∀ m,m ≤ C.length → ∃ s : Nat → Int,∀ j : Nat,C.length - m ≤ j → j < C.length → (1 ≤ s j ∧ s j ≤ szX m) ∧ Ev (fun k => impl_tmplSize.f k C (rd_T48 C (j : Int)).f3.f0 (rd_T48 C (j : Int)).f3.f1 (rd_T48 C (j : Int)).f3.f2 (rd_T48 C (j : Int)).f3.f3 (rd_T48 C (j : Int)).f3.f4 (rd_T48 C (j : Int)).f3.f5 (rd_T48 C (j : Int)).f3.f6) (s j) ∧
   ∀ xs : List Int,xs.length = C.length → (∀ i : Nat,(j : Int) < (i : Int) → i < C.length → rd xs (i : Int) = mn (s i) 201) → Ev (fun k => spec_sizeOf.f k (rd_T48 C (j : Int)).f3.f0 (rd_T48 C (j : Int)).f3.f1 (rd_T48 C (j : Int)).f3.f2 (rd_T48 C (j : Int)).f3.f3 (rd_T48 C (j : Int)).f3.f4 (rd_T48 C (j : Int)).f3.f5 (rd_T48 C (j : Int)).f3.f6 xs) (mn (s j) 201):=by
 intro m
 induction m with
 | zero => intro hm;exact ⟨fun _ => 0,fun j h1 h2 => by omega⟩
 | succ m ih =>
  intro hm
  obtain ⟨s,hs⟩:=ih (by omega)
  have hX : 0 ≤ szX m:=by
   clear hm hs ih
   induction m with
   | zero => simp [szX]
   | succ m ih => have:=szB_ge ih 4;simp only [szX];omega
  have hXb : szB (szX m) 4 ≤ 1000000000000000:=by
   have : m = 0 ∨ m = 1 ∨ m = 2 ∨ m = 3:=by omega
   rcases this with rfl | rfl | rfl | rfl <;> decide
  obtain ⟨j,hj⟩ : ∃ j,j = C.length - (m + 1):=⟨_,rfl⟩;obtain ⟨v,hv,e1,e2⟩:=size_ok (C:=C) (at':=(j : Int)) (s:=s) hX hC (by omega) (fun i h1 h2 => ⟨(hs i (by omega) h2).1,(hs i (by omega) h2).2.1⟩) 4 _ (hf j (by omega)) hXb
  have hmono : szX m ≤ szX (m + 1):=by have:=szB_ge hX 4;simp only [szX];omega
  refine ⟨fun i => if i = j then v else s i,fun i h1 h2 => ?_⟩
  by_cases e : i = j
  ·subst e
   simp only [if_true]
   refine ⟨hv,e1,fun xs hx hxs => e2 xs hx (fun i' h1 h2 => ?_)⟩
   have:=hxs i' h1 h2;rw [if_neg (by omega)] at this
   exact this
  ·simp only [if_neg e]
   obtain ⟨g1,g2,g3⟩:=hs i (by omega) h2
   refine ⟨⟨g1.1,by omega⟩,g2,fun xs hx hxs => g3 xs hx (fun i' h1 h2 => ?_)⟩
   have:=hxs i' h1 h2;rw [if_neg (by omega)] at this
   exact this
theorem nodes_ok {C : List S48} (hC : C.length ≤ 4) (h0 : 0 < C.length) (hf : ∀ j : Nat,j < C.length → TFit (C.length : Int) (j : Int) 4 (rd_T48 C (j : Int)).f3) :
  ∃ n : Int,Ev (fun k => impl_tmplSize.f k C (rd_T48 C 0).f3.f0 (rd_T48 C 0).f3.f1 (rd_T48 C 0).f3.f2 (rd_T48 C 0).f3.f3 (rd_T48 C 0).f3.f4 (rd_T48 C 0).f3.f5 (rd_T48 C 0).f3.f6) n ∧
   ∃ xs : List Int,Ev (fun k => spec_sizes.f k C) xs ∧ 0 < xs.length ∧ rd xs 0 = mn n 201:=by
 obtain ⟨s,hs⟩:=sizes_ok hC hf C.length (Nat.le_refl _)
 refine ⟨s 0,(hs 0 (by omega) h0).2.1,?_⟩
 have key : ∀ m,m ≤ C.length → ∀ xs : List Int,xs.length = C.length → (∀ i : Nat,m ≤ i → i < C.length → rd xs (i : Int) = mn (s i) 201) →
   ∃ ys : List Int,Ev (fun k => spec_sizes.l0 k C xs ((m : Int) - 1)) ys ∧ ys.length = C.length ∧ ∀ i : Nat,i < C.length → rd ys (i : Int) = mn (s i) 201:=by
  intro m
  induction m with
  | zero =>
   intro hm xs hx hxs
   refine ⟨xs,Ev.succ ?_,hx,fun i hi => hxs i (by omega) hi⟩
   simp only [spec_sizes.l0]
   exact Ev.neg (by omega) (Ev.pure _)
  | succ m ih =>
   intro hm xs hx hxs
   have e:=(hs m (by omega) (by omega)).2.2 xs hx (fun i h1 h2 => hxs i (by omega) h2)
   obtain ⟨ys,g1,g2⟩:=ih (by omega) (xs.set m (mn (s m) 201)) (by simpa using hx) (fun i h1 h2 => by
    rw [rdInt_set (by omega)]
    by_cases c : i = m
    ·rw [if_pos c,c]
    ·rw [if_neg c];exact hxs i (by omega) h2)
   refine ⟨ys,Ev.succ ?_,g2⟩
   rw [show ((m + 1 : Nat) : Int) - 1 = (m : Int) from by omega];simp only [spec_sizes.l0]
   refine Ev.pos (by omega) (Ev.pos (by omega) (Ev.pos (by omega) (Ev.bind e (Ev.pos (by omega) ?_))))
   rw [w64 (n:=(m : Int) - 1) (by omega) (by omega),Int.toNat_natCast]
   exact g1
 obtain ⟨ys,g1,g2,g3⟩:=key C.length (Nat.le_refl _) (List.replicate C.length 0) (by simp) (fun i h1 h2 => by omega)
 refine ⟨ys,?_,by omega,g3 0 h0⟩
 simp only [spec_sizes.f]
 refine Ev.pos (by omega) (Ev.pos (by omega) ?_)
 rw [w64 (n:=(C.length : Int) - 1) (by omega) (by omega),Int.toNat_natCast]
 exact g1
def csOk (c : S48) : Bool:=decide (0 ≤ c.f0 ∧ c.f0 ≤ 3) && (decide (c.f1.length ≤ 3) && vsOk c.f1)
def setOk (st : List S67) (x : S57) : Bool:=decide (0 ≤ x.f0 ∧ x.f0 ≤ (st.length : Int) - 1) && formOk x.f1 0 (st.length : Int) 0
def actOk (st : List S67) (a : List S57) : Bool:=decide (a.length ≤ 3) && allFrom (fun i => setOk st (rd_T57 a (i : Int))) a.length 0
def asOk (c : S48) : Bool:=decide (c.f2.length ≤ 3) && allFrom (fun i => actOk c.f1 (rd_L7 c.f2 (i : Int))) c.f2.length 0
theorem len3 (n : Nat) : (!decide ((n : Int) > 3)) = decide (n ≤ 3):=by
 by_cases h : n ≤ 3
 ·rw [decide_eq_true h,decide_eq_false (by omega)];rfl
 ·rw [decide_eq_false h,decide_eq_true (by omega)];rfl
theorem acts_impl (st : List S67) (ac : List (List S57)) (p b0 b1 : Int) (b2 : List Int) (b3 : List (List S70)) (b4 : List S70) (b5 : List S76) (b6 : List S46) (x2 : List (List S57))
  (hs : st.length ≤ 3) (ha : ac.length ≤ 10) (ha' : ∀ a ∈ ac,a.length ≤ 10 ∧ ∀ s ∈ a,FS s.f1) :
  Ev (fun k => impl_compOk.l0 k ac (ac.length : Int) 0 p st x2 b0 b1 b2 b3 b4 b5 b6) (allFrom (fun i => actOk st (rd_L7 ac (i : Int))) ac.length 0):=by
 have:=Ev.ix (n:=ac.length) (F:=fun k i => impl_compOk.l0 k ac (ac.length : Int) (i : Int) p st x2 b0 b1 b2 b3 b4 b5 b6) (p:=fun i => actOk st (rd_L7 ac (i : Int))) (r:=true)
  (fun _ => Ev.succ (by simp only [impl_compOk.l0];exact Ev.neg (by omega) (Ev.pure _)))
  (fun i hi v g => Ev.succ (by
   simp only [impl_compOk.l0];obtain ⟨m1,m2⟩:=ha' _ (rdL7_mem hi)
   unfold actOk at g ⊢
   rw [Bool.and_assoc,← len3];rw [← len3] at g
   refine Ev.pos (by omega) (Ev.pos (by omega) (Ev.pos (by omega) (Ev.and_nif fun c => ?_)))
   exact Ev.ix (n:=(rd_L7 ac (i : Int)).length) (F:=fun k j => impl_compOk.l1 k ac (ac.length : Int) (i : Int) (rd_L7 ac (i : Int)) ((rd_L7 ac (i : Int)).length : Int) (j : Int) p st x2 b0 b1 b2 b3 b4 b5 b6) (p:=fun j => setOk st (rd_T57 (rd_L7 ac (i : Int)) (j : Int))) (r:=v)
    (fun hall => Ev.succ (by
     simp only [impl_compOk.l1];rw [wnext hi (by omega)]
     refine Ev.neg (by omega) (g ?_)
     rw [decide_eq_false c,Bool.not_false,Bool.true_and,allFrom_iff]
     exact fun j _ hj => hall j (by omega)))
    (fun j hj v2 g2 => Ev.succ (by
     simp only [impl_compOk.l1];rw [wnext hj (by omega),w64 (n:=(st.length : Int) - 1) (by omega) (by omega)]
     unfold setOk at g2 ⊢
     rw [Bool.and_assoc]
     refine Ev.pos (by omega) (Ev.pos (by omega) (Ev.pos (by omega) (Ev.and_bind (within_ev _ _ _) (fun e => Ev.and_bind (form_impl (m2 _ (rd57_mem hj)) 0 _ 0 (by omega) (by omega) (by omega)) (fun e2 => g2 (by rw [e,e2];rfl)))))))) ))
 rw [Bool.and_true] at this
 exact this
theorem acts_spec (c : S48) (hs : c.f1.length ≤ 3) (ha : c.f2.length ≤ 10) (ha' : ∀ a ∈ c.f2,a.length ≤ 10 ∧ ∀ s ∈ a,FS s.f1) :
  Ev (fun k => spec_validActs.f k c.f0 c.f1 c.f2 c.f3.f0 c.f3.f1 c.f3.f2 c.f3.f3 c.f3.f4 c.f3.f5 c.f3.f6) (asOk c):=by
 have:=Ev.ix (n:=c.f2.length) (F:=fun k i => spec_validActs.l0 k (i : Int) c.f0 c.f1 c.f2 c.f3.f0 c.f3.f1 c.f3.f2 c.f3.f3 c.f3.f4 c.f3.f5 c.f3.f6) (p:=fun i => actOk c.f1 (rd_L7 c.f2 (i : Int))) (r:=true)
  (fun _ => Ev.succ (by simp only [spec_validActs.l0];exact Ev.neg (by omega) (Ev.pure _)))
  (fun i hi v g => Ev.succ (by
   simp only [spec_validActs.l0];obtain ⟨m1,m2⟩:=ha' _ (rdL7_mem hi)
   unfold actOk at g ⊢
   rw [Bool.and_assoc,← len3];rw [← len3] at g
   refine Ev.pos (by omega) (Ev.pos (by omega) (Ev.and_nif fun cc => ?_))
   exact Ev.ix (n:=(rd_L7 c.f2 (i : Int)).length) (F:=fun k j => spec_validActs.l1 k (i : Int) (j : Int) c.f0 c.f1 c.f2 c.f3.f0 c.f3.f1 c.f3.f2 c.f3.f3 c.f3.f4 c.f3.f5 c.f3.f6) (p:=fun j => setOk c.f1 (rd_T57 (rd_L7 c.f2 (i : Int)) (j : Int))) (r:=v)
    (fun hall => Ev.succ (by
     simp only [spec_validActs.l1];rw [wnext hi (by omega)]
     refine Ev.pos (by omega) (Ev.pos (by omega) (Ev.neg (by omega) (g ?_)))
     rw [decide_eq_false cc,Bool.not_false,Bool.true_and,allFrom_iff]
     exact fun j _ hj => hall j (by omega)))
    (fun j hj v2 g2 => Ev.succ (by
     simp only [spec_validActs.l1];rw [wnext hj (by omega),w64 (n:=(c.f1.length : Int) - 1) (by omega) (by omega)]
     unfold setOk at g2 ⊢
     rw [Bool.and_assoc]
     refine Ev.pos (by omega) (Ev.pos (by omega) (Ev.pos (by omega) (Ev.pos (by omega) (Ev.and_bind (inRange_ev _ _ _) (fun e => Ev.and_bind (form_spec (m2 _ (rd57_mem hj)) 0 _ 0 (by omega) (by omega) (by omega)) (fun e2 => g2 (by rw [e,e2];rfl))))))))) ))
 rw [Bool.and_true] at this;simp only [spec_validActs.f]
 unfold asOk
 rw [← len3]
 exact Ev.and_nif fun _ => this
theorem vals_impl {l : List S67} (hl : l.length ≤ 10) (h : ∀ x ∈ l,x.f2.size ≤ 20) : Ev (fun k => impl_valsOk.f k l) (vsOk l):=
 Ev.of_gt (K:=100) fun k hk => impl_vals_at l (by omega) 21 (fun x hx => by have:=h x hx;omega) (by omega) k (by omega)
theorem vals_spec {l : List S67} (hl : l.length ≤ 10) (h : ∀ x ∈ l,x.f2.size ≤ 20) : Ev (fun k => spec_validValues.f k l) (vsOk l):=
 Ev.of_gt (K:=100) fun k hk => spec_vals_at l (by omega) 21 (fun x hx => by have:=h x hx;omega) (by omega) k (by omega)
theorem comp_impl {C : List S48} (hC : C.length ≤ 4) (h : ∀ c ∈ C,CS c) (i : Nat) (hi : i < C.length) : Ev (fun k => impl_compOk.f k C (i : Int)) (csOk (rd_T48 C (i : Int)) && asOk (rd_T48 C (i : Int))):=by
 obtain ⟨-,g1,g2,g3,g4,-⟩:=h _ (rd48_mem (i:=(i : Int)) (by omega) (by omega));simp only [impl_compOk.f]
 refine Ev.pos (by omega) (Ev.pos (by omega) ?_)
 generalize rd_T48 C (i : Int) = c at *
 have J : ∀ b,c.f1.length ≤ 3 ∨ b = true → Ev (fun k => impl_compOk.j0 k b c.f0 c.f1 c.f2 c.f3.f0 c.f3.f1 c.f3.f2 c.f3.f3 c.f3.f4 c.f3.f5 c.f3.f6) (!b && allFrom (fun i => actOk c.f1 (rd_L7 c.f2 (i : Int))) c.f2.length 0):=by
  intro b hb
  refine Ev.succ ?_
  simp only [impl_compOk.j0]
  cases b with
  | true => exact Ev.pos rfl (Ev.pure _)
  | false =>
   refine Ev.neg (by simp) (Ev.val (acts_impl c.f1 c.f2 c.f0 c.f3.f0 c.f3.f1 c.f3.f2 c.f3.f3 c.f3.f4 c.f3.f5 c.f3.f6 c.f2 (by simpa using hb) g3 g4) (Bool.true_and _).symm)
 refine Ev.bind (within_ev _ _ _) ?_
 unfold csOk asOk
 by_cases c0 : 0 ≤ c.f0 ∧ c.f0 ≤ 3
 ·rw [decide_eq_true c0]
  refine Ev.pos rfl ?_
  by_cases c1 : (c.f1.length : Int) > 3
  ·exact Ev.pos c1 (Ev.val (J true (Or.inr rfl)) (by rw [show decide (c.f1.length ≤ 3) = false from decide_eq_false (by omega)];simp))
  ·refine Ev.neg c1 (Ev.bind (vals_impl g1 g2) ?_)
   rw [show decide (c.f1.length ≤ 3) = true from decide_eq_true (by omega)]
   cases vsOk c.f1 with
   | true => exact Ev.pos rfl (Ev.val (J _ (Or.inl (by omega))) (by rw [len3];simp))
   | false => exact Ev.neg (by simp) (Ev.val (J true (Or.inr rfl)) (by simp))
 ·rw [decide_eq_false c0]
  exact Ev.neg (by simp) (Ev.val (J true (Or.inr rfl)) (by simp))
theorem prog_ok {C : List S48} (h : PS C) : ∃ b,Ev (fun k => impl_ProgOk.f k C) b ∧ Ev (fun k => spec_validProg.f k C) b ∧ (b = true → ∀ j : Nat,j < C.length → TFit (C.length : Int) (j : Int) 4 (rd_T48 C (j : Int)).f3):=by
 obtain ⟨hn0,hn,hcs⟩:=h;have hi4 : Ev (fun _ => impl_within.f (C.length : Int) 1 4) true:=Ev.val (within_ev _ _ _) (decide_eq_true (by omega));have hs4 : Ev (fun _ => spec_inRange.f (C.length : Int) 1 4) true:=Ev.val (inRange_ev _ _ _) (decide_eq_true (by omega));obtain ⟨r,hr⟩ : ∃ r,r = ((rd_T48 C 0).f0 != 0):=⟨_,rfl⟩
 cases r with
 | true =>
  refine ⟨false,?_,?_,fun h => absurd h (by simp)⟩
  ·simp only [impl_ProgOk.f,← hr]
   refine Ev.bind hi4 (Ev.pos rfl (Ev.pos (by omega) (Ev.succ ?_)))
   simp only [impl_ProgOk.j0]
   exact Ev.pos trivial (Ev.pure _)
  ·simp only [spec_validProg.f,← hr]
   refine Ev.bind hs4 (Ev.pos rfl (Ev.pos (by omega) (Ev.succ ?_)))
   simp only [spec_validProg.j0]
   exact Ev.pos trivial (Ev.pure _)
 | false =>
  obtain ⟨cs,hcsd⟩ : ∃ cs : Nat → Bool,cs = fun i : Nat => csOk (rd_T48 C (i : Int)):=⟨_,rfl⟩
  obtain ⟨av,hasd⟩ : ∃ av : Nat → Bool,av = fun i : Nat => asOk (rd_T48 C (i : Int)):=⟨_,rfl⟩
  have mem : ∀ c ∈ C,∃ i : Nat,i < C.length ∧ c = rd_T48 C (i : Int):=by
   intro c hc
   obtain ⟨i,hi,rfl⟩:=List.mem_iff_getElem.1 hc
   refine ⟨i,hi,?_⟩
   unfold rd_T48
   rw [List.getD_eq_getElem?_getD,Int.toNat_natCast,List.getElem?_eq_getElem hi]
   rfl
  have hc : (∀ i,i < C.length → cs i = true) → ∀ c ∈ C,(0 ≤ c.f0 ∧ c.f0 ≤ 3) ∧ c.f1.length ≤ 3 ∧ c.f2.length ≤ 10:=by
   intro hall c hcm
   obtain ⟨i,hi,rfl⟩:=mem c hcm;have:=hall i hi;rw [hcsd] at this;simp only [csOk,Bool.and_eq_true,decide_eq_true_eq] at this
   exact ⟨this.1,this.2.1,(hcs _ hcm).2.2.2.1⟩
  have ex : ∀ i : Nat,∃ b,i < C.length → (∀ i,i < C.length → cs i = true) → Ev (fun k => impl_tmplOk.f k C (i : Int) (rd_T48 C (i : Int)).f3.f0 (rd_T48 C (i : Int)).f3.f1 (rd_T48 C (i : Int)).f3.f2 (rd_T48 C (i : Int)).f3.f3 (rd_T48 C (i : Int)).f3.f4 (rd_T48 C (i : Int)).f3.f5 (rd_T48 C (i : Int)).f3.f6 1 0) b ∧ Ev (fun k => spec_validTmpl.f k C (i : Int) (rd_T48 C (i : Int)).f3.f0 (rd_T48 C (i : Int)).f3.f1 (rd_T48 C (i : Int)).f3.f2 (rd_T48 C (i : Int)).f3.f3 (rd_T48 C (i : Int)).f3.f4 (rd_T48 C (i : Int)).f3.f5 (rd_T48 C (i : Int)).f3.f6 1 0) b ∧ (b = true → TFit (C.length : Int) (i : Int) 4 (rd_T48 C (i : Int)).f3):=by
   intro i
   by_cases hi : i < C.length
   ·by_cases hall : ∀ i,i < C.length → cs i = true
    ·obtain ⟨b,g⟩:=tmpl_ok (at':=(i : Int)) hn (by omega) (by omega) (hc hall) _ (hcs _ (rd48_mem (i:=(i : Int)) (by omega) (by omega))).2.2.2.2.2 4 1 0 (by omega) (by omega) (by omega) (by omega)
     exact ⟨b,fun _ _ => g⟩
    ·exact ⟨true,fun _ h => absurd h hall⟩
   ·exact ⟨true,fun h => absurd h hi⟩
  obtain ⟨tm,htm⟩:=Classical.skolem.mp ex;obtain ⟨n,hnd⟩ : ∃ n : Int,(∀ i,i < C.length → cs i = true) → (∀ i,i < C.length → tm i = true) → Ev (fun k => impl_tmplSize.f k C (rd_T48 C 0).f3.f0 (rd_T48 C 0).f3.f1 (rd_T48 C 0).f3.f2 (rd_T48 C 0).f3.f3 (rd_T48 C 0).f3.f4 (rd_T48 C 0).f3.f5 (rd_T48 C 0).f3.f6) n ∧
   ∃ xs : List Int,Ev (fun k => spec_sizes.f k C) xs ∧ 0 < xs.length ∧ rd xs 0 = mn n 201:=by
   by_cases h1 : ∀ i,i < C.length → cs i = true
   ·by_cases h2 : ∀ i,i < C.length → tm i = true
    ·obtain ⟨n,g⟩:=nodes_ok hn (by omega) (fun j hj => (htm j hj h1).2.2 (h2 j hj))
     exact ⟨n,fun _ _ => g⟩
    ·exact ⟨0,fun _ h => absurd h h2⟩
   ·exact ⟨0,fun h => absurd h h1⟩
  have I1 : (∀ i,i < C.length → cs i = true) → Ev (fun k => impl_ProgOk.l1 k C (C.length : Int) 0) (allFrom tm C.length 0 && decide (n < 200)):=by
   intro hall
   exact Ev.ix (n:=C.length) (F:=fun k i => impl_ProgOk.l1 k C (C.length : Int) (i : Int)) (p:=tm) (r:=decide (n < 200))
    (fun h2 => Ev.succ (by
     simp only [impl_ProgOk.l1]
     exact Ev.neg (by omega) (Ev.pos (by omega) (Ev.bind (hnd hall h2).1 (Ev.pure _)))))
    (fun i hi v g => Ev.succ (by
     simp only [impl_ProgOk.l1];rw [wnext hi (by omega)]
     exact Ev.pos (by omega) (Ev.pos (by omega) (Ev.pos (by omega) (Ev.and_bind (htm i hi hall).1 g)))))
  have I0 : Ev (fun k => impl_ProgOk.l0 k C (C.length : Int) 0) (allFrom (fun i => cs i && av i) C.length 0 && (allFrom tm C.length 0 && decide (n < 200))):=
   Ev.ix (n:=C.length) (F:=fun k i => impl_ProgOk.l0 k C (C.length : Int) (i : Int)) (p:=fun i => cs i && av i) (r:=(allFrom tm C.length 0 && decide (n < 200)))
    (fun h2 => Ev.succ (by
     simp only [impl_ProgOk.l0]
     exact Ev.neg (by omega) (I1 fun i hi => (Bool.and_eq_true_iff.1 (h2 i hi)).1)))
    (fun i hi v g => Ev.succ (by
     simp only [impl_ProgOk.l0];rw [wnext hi (by omega)]
     refine Ev.pos (by omega) (Ev.and_bind ?_ g)
     rw [hcsd,hasd]
     exact comp_impl hn hcs i hi))
  have IF : Ev (fun k => impl_ProgOk.f k C) (allFrom (fun i => cs i && av i) C.length 0 && (allFrom tm C.length 0 && decide (n < 200))):=by
   simp only [impl_ProgOk.f,← hr]
   refine Ev.bind hi4 (Ev.pos rfl (Ev.pos (by omega) (Ev.succ ?_)))
   simp only [impl_ProgOk.j0]
   exact Ev.neg (by simp) I0
  have S1 : (∀ i,i < C.length → cs i = true) → Ev (fun k => spec_validProg.l1 k C 0) (allFrom (fun i => av i && tm i) C.length 0 && decide (n < 200)):=by
   intro hall
   exact Ev.ix (n:=C.length) (F:=fun k i => spec_validProg.l1 k C (i : Int)) (p:=fun i => av i && tm i) (r:=decide (n < 200))
    (fun h2 => Ev.succ (by
     simp only [spec_validProg.l1]
     obtain ⟨-,xs,e,e1,e2⟩:=hnd hall fun i hi => (Bool.and_eq_true_iff.1 (h2 i hi)).2
     refine Ev.neg (by omega) (Ev.bind e (Ev.pos (by omega) (Ev.val (Ev.pure _) ?_)))
     rw [e2];have:=mn_is n
     by_cases c : n < 200
     ·rw [decide_eq_true c,decide_eq_true (by omega)]
     ·rw [decide_eq_false c,decide_eq_false (by omega)]))
    (fun i hi v g => Ev.succ (by
     simp only [spec_validProg.l1];rw [wnext hi (by omega),Bool.and_assoc];have hm:=rd48_mem (C:=C) (i:=(i : Int)) (by omega) (by omega);have g2:=hc hall _ hm
     refine Ev.pos (by omega) (Ev.pos (by omega) (Ev.and_bind ?_ (fun e => Ev.and_bind (htm i hi hall).2.1 (fun e2 => g (by rw [e,e2];rfl)))))
     rw [hasd]
     exact acts_spec _ g2.2.1 g2.2.2 (hcs _ hm).2.2.2.2.1))
  have S0 : Ev (fun k => spec_validProg.l0 k C 0) (allFrom cs C.length 0 && (allFrom (fun i => av i && tm i) C.length 0 && decide (n < 200))):=
   Ev.ix (n:=C.length) (F:=fun k i => spec_validProg.l0 k C (i : Int)) (p:=cs) (r:=(allFrom (fun i => av i && tm i) C.length 0 && decide (n < 200)))
    (fun h2 => Ev.succ (by
     simp only [spec_validProg.l0]
     exact Ev.neg (by omega) (S1 h2)))
    (fun i hi v g => Ev.succ (by
     simp only [spec_validProg.l0];rw [wnext hi (by omega)];obtain ⟨-,g1,g2,-,-,-⟩:=hcs _ (rd48_mem (i:=(i : Int)) (by omega) (by omega));rw [hcsd] at g ⊢;simp only [csOk] at g ⊢;rw [Bool.and_assoc,Bool.and_assoc,← len3];rw [← len3] at g
     refine Ev.pos (by omega) (Ev.pos (by omega) (Ev.and_bind (inRange_ev _ _ _) (fun e => Ev.and_nif fun c => Ev.and_bind (vals_spec g1 g2) (fun e2 => g ?_))))
     rw [e,e2,decide_eq_false c];rfl))
  have SF : Ev (fun k => spec_validProg.f k C) (allFrom cs C.length 0 && (allFrom (fun i => av i && tm i) C.length 0 && decide (n < 200))):=by
   simp only [spec_validProg.f,← hr]
   refine Ev.bind hs4 (Ev.pos rfl (Ev.pos (by omega) (Ev.succ ?_)))
   simp only [spec_validProg.j0]
   exact Ev.neg (by simp) S0
  refine ⟨_,IF,Ev.val SF ?_,?_⟩
  ·rw [allFrom_and,allFrom_and,Bool.and_assoc,Bool.and_assoc]
  ·intro hb
   rw [allFrom_and] at hb;simp only [Bool.and_eq_true] at hb;obtain ⟨⟨h1,-⟩,h2,-⟩:=hb
   exact fun j hj => (htm j hj (allFrom_all h1)).2.2 (allFrom_all h2 j hj)
inductive Cl : S46 → Nat → Prop
 | here (t : S46) (j : Nat) (h : t.f0 = 4) (e : t.f1 = (j : Int)) : Cl t j
 | kid (t x : S46) (j : Nat) (hx : x ∈ t.f6) (h : Cl x j) : Cl t j
def bodyOf (C : List S48) (i : Nat) : S46:=(rd_T48 C (i : Int)).f3
inductive Rc (C : List S48) (a : Nat) : Nat → Prop
 | one (j : Nat) (h : Cl (bodyOf C a) j) : Rc C a j
 | more (i j : Nat) (h : Rc C a i) (g : Cl (bodyOf C i) j) : Rc C a j
theorem Rc.trans {C : List S48} {a i j : Nat} (h : Rc C a i) (g : Rc C i j) : Rc C a j:=by
 induction g with
 | one j g => exact Rc.more i j h g
 | more m j _ g ih => exact Rc.more m j ih g
theorem Cl.fit {n at' : Int} {t : S46} {j : Nat} (h : Cl t j) : ∀ e,TFit n at' e t → at' < (j : Int) ∧ (j : Int) < n:=by
 induction h with
 | here t j h e =>
  intro e' g
  cases g with
  | mk e'' _ h4 _ _ _ => have:=(h4 h).1;omega
 | kid t x j hx _ ih =>
  intro e' g
  cases g with
  | mk e'' _ _ _ _ hk => exact ih e'' (hk x hx)
def Fr (C : List S48) (t : S46) (j : Nat) : Prop:=Cl t j ∨ ∃ i,Cl t i ∧ Rc C i j
def gt (seen : List Bool) (j : Nat) : Prop:=rdOf false seen (j : Int) = true
theorem gt_set {seen : List Bool} {i j : Nat} (h : i < seen.length) : gt (seen.set i true) j ↔ j = i ∨ gt seen j:=by
 unfold gt rdOf
 rw [List.getD_eq_getElem?_getD,List.getD_eq_getElem?_getD,Int.toNat_natCast,List.getElem?_set]
 by_cases e : j = i
 ·subst e;simp [h]
 ·rw [if_neg (Ne.symm e)];simp [e]
theorem gt_lt {seen : List Bool} {j : Nat} (h : gt seen j) : j < seen.length:=by
 unfold gt rdOf at h
 rw [List.getD_eq_getElem?_getD,Int.toNat_natCast] at h
 by_cases e : j < seen.length
 ·exact e
 ·rw [List.getElem?_eq_none (by omega)] at h;simp at h
theorem gt_no (n j : Nat) : ¬ gt (List.replicate n false) j:=by
 unfold gt rdOf
 rw [List.getD_eq_getElem?_getD,Int.toNat_natCast,List.getElem?_replicate]
 by_cases e : j < n <;> simp [e]
def Post (C : List S48) (t : S46) (s s' : List Bool) : Prop:=
 (∀ j,gt s j → gt s' j) ∧ (∀ j,Cl t j → gt s' j) ∧ (∀ j,gt s' j → gt s j ∨ Fr C t j) ∧ (∀ j,gt s' j → ¬ gt s j → ∀ m,Cl (bodyOf C j) m → gt s' m)
theorem below_tree {C : List S48} {at' : Int} (h0 : 0 ≤ at')
  (H : ∀ j : Nat,at' < (j : Int) → j < C.length → ∀ s : List Bool,s.length = C.length → ∃ s',s'.length = C.length ∧ Ev (fun k => impl_below.f k C (rd_T48 C (j : Int)).f3.f0 (rd_T48 C (j : Int)).f3.f1 (rd_T48 C (j : Int)).f3.f2 (rd_T48 C (j : Int)).f3.f3 (rd_T48 C (j : Int)).f3.f4 (rd_T48 C (j : Int)).f3.f5 (rd_T48 C (j : Int)).f3.f6 s) s' ∧ Post C (bodyOf C j) s s') :
  ∀ (e : Nat) (t : S46),TFit (C.length : Int) at' e t → ∀ s : List Bool,s.length = C.length → ∃ s',s'.length = C.length ∧ Ev (fun k => impl_below.f k C t.f0 t.f1 t.f2 t.f3 t.f4 t.f5 t.f6 s) s' ∧ Post C t s s':=by
 intro e t h
 induction h with
 | mk e t h4 h3 hl hk ih =>
  intro s hs
  have L : ∀ d i (s : List Bool),i + d = t.f6.length → s.length = C.length → ∃ s',s'.length = C.length ∧ Ev (fun k => impl_below.l0 k C s t.f6 (t.f6.length : Int) (i : Int)) s' ∧
    (∀ j,gt s j → gt s' j) ∧ (∀ x ∈ t.f6.drop i,∀ j,Cl x j → gt s' j) ∧ (∀ j,gt s' j → gt s j ∨ Fr C t j) ∧ (∀ j,gt s' j → ¬ gt s j → ∀ m,Cl (bodyOf C j) m → gt s' m):=by
   intro d
   induction d with
   | zero =>
    intro i s hi hs
    obtain rfl : i = t.f6.length:=by omega
    refine ⟨s,hs,Ev.succ ?_,fun j h => h,by simp,fun j h => Or.inl h,fun j h h' => absurd h h'⟩
    simp only [impl_below.l0]
    exact Ev.neg (by omega) (Ev.pure _)
   | succ d ihd =>
    intro i s hi hs
    have hi' : i < t.f6.length:=by omega
    have hm:=rd46_mem hi';obtain ⟨s1,l1,e1,a1,a2,a3,a4⟩:=ih _ hm s hs;obtain ⟨s2,l2,e2,b1,b2,b3,b4⟩:=ihd (i + 1) s1 (by omega) l1
    refine ⟨s2,l2,Ev.succ ?_,fun j h => b1 j (a1 j h),?_,?_,?_⟩
    ·simp only [impl_below.l0]
     refine Ev.pos (by omega) (Ev.pos (by omega) (Ev.pos (by omega) (Ev.bind e1 ?_)))
     rw [wnext hi' (by omega)];exact e2
    ·intro x hx j hj
     rw [drop_cons hi'] at hx
     rcases List.mem_cons.1 hx with rfl | hx
     ·refine b1 j (a2 j ?_)
      unfold rd_T46
      rw [List.getD_eq_getElem?_getD,Int.toNat_natCast,List.getElem?_eq_getElem hi']
      exact hj
     ·exact b2 x hx j hj
    ·intro j hj
     rcases b3 j hj with h | h
     ·rcases a3 j h with h | h | ⟨i',h,g⟩
      ·exact Or.inl h
      ·exact Or.inr (Or.inl (Cl.kid _ _ _ hm h))
      ·exact Or.inr (Or.inr ⟨i',Cl.kid _ _ _ hm h,g⟩)
     ·exact Or.inr h
    ·intro j hj hn m hc
     by_cases h : gt s1 j
     ·exact b1 m (a4 j h hn m hc)
     ·exact b4 j hj h m hc
  obtain ⟨s',l',e',p1,p2,p3,p4⟩:=L t.f6.length 0 s (by omega) hs;rw [List.drop_zero] at p2
  by_cases c4 : t.f0 = 4
  ·obtain ⟨⟨ht0,ht1⟩,hl0⟩:=h4 c4
   obtain ⟨j,hj⟩ : ∃ j : Nat,t.f1 = (j : Int):=⟨t.f1.toNat,by omega⟩;have hnil : t.f6 = []:=List.eq_nil_of_length_eq_zero hl0
   have only : ∀ m,Cl t m → m = j:=by
    intro m h
    cases h with
    | here _ _ _ e => omega
    | kid _ x _ hx _ => rw [hnil] at hx;cases hx
   have N : ∀ s : List Bool,Ev (fun k => impl_below.l0 k C s t.f6 (t.f6.length : Int) 0) s:=by
    intro s
    refine Ev.succ ?_
    simp only [impl_below.l0]
    exact Ev.neg (by omega) (Ev.pure _)
   have J1 : ∀ s : List Bool,Ev (fun k => impl_below.j1 k C s t.f0 t.f1 t.f2 t.f3 t.f4 t.f5 t.f6) s:=by
    intro s
    refine Ev.succ ?_
    simp only [impl_below.j1]
    exact N s
   by_cases c : gt s j
   ·refine ⟨s,hs,Ev.succ ?_,fun j h => h,fun m h => by rw [only m h];exact c,fun j h => Or.inl h,fun j h h' => absurd h h'⟩
    simp only [impl_below.f]
    unfold gt at c
    rw [hj,c]
    refine Ev.pos c4 (Ev.pos (by omega) (Ev.pos (by omega) (Ev.succ ?_)))
    simp only [impl_below.j0];have:=J1 s;rw [hj] at this
    exact Ev.neg (by simp) this
   ·have hjl : j < s.length:=by omega
    obtain ⟨s2,l2,e2,a1,a2,a3,a4⟩:=H j (by omega) (by omega) (s.set j true) (by simpa using hs)
    refine ⟨s2,l2,Ev.succ ?_,fun m h => a1 m ((gt_set hjl).2 (Or.inr h)),fun m h => by rw [only m h];exact a1 j ((gt_set hjl).2 (Or.inl rfl)),?_,?_⟩
    ·simp only [impl_below.f]
     have c' : rdOf false s (j : Int) = false:=by
      unfold gt at c
      simpa using c
     rw [hj,c']
     refine Ev.pos c4 (Ev.pos (by omega) (Ev.pos (by omega) (Ev.succ ?_)))
     simp only [impl_below.j0];have:=J1 s2;rw [hj] at this
     refine Ev.pos rfl (Ev.pos (by omega) (Ev.pos (by omega) (Ev.pos (by omega) (Ev.bind ?_ this))))
     rw [Int.toNat_natCast]
     exact e2
    ·intro m h
     rcases a3 m h with h | h
     ·rcases (gt_set hjl).1 h with rfl | h
      ·exact Or.inr (Or.inl (Cl.here _ _ c4 hj))
      ·exact Or.inl h
     ·refine Or.inr (Or.inr ⟨j,Cl.here _ _ c4 hj,?_⟩)
      rcases h with h | ⟨i,h,g⟩
      ·exact Rc.one m h
      ·exact Rc.trans (Rc.one i h) g
    ·intro m h hn x hx
     by_cases e : m = j
     ·subst e;exact a2 x hx
     ·exact a4 m h (fun hc => by rcases (gt_set hjl).1 hc with h | h;exact e h;exact hn h) x hx
  ·refine ⟨s',l',Ev.succ ?_,p1,?_,p3,p4⟩
   ·simp only [impl_below.f]
    refine Ev.neg c4 (Ev.succ ?_)
    simp only [impl_below.j0]
    refine Ev.neg (by simp) (Ev.succ ?_)
    simp only [impl_below.j1]
    exact e'
   ·intro m h
    cases h with
    | here _ _ h _ => exact absurd h c4
    | kid _ x _ hx h => exact p2 x hx m h
theorem calls_tree {C : List S48} {at' : Int} (h0 : 0 ≤ at') : ∀ (e : Nat) (t : S46),TFit (C.length : Int) at' e t → ∀ s : List Bool,s.length = C.length → ∃ s',s'.length = C.length ∧ Ev (fun k => spec_calls.f k t.f0 t.f1 t.f2 t.f3 t.f4 t.f5 t.f6 s) s' ∧ ∀ j,gt s' j ↔ gt s j ∨ Cl t j:=by
 intro e t h
 induction h with
 | mk e t h4 h3 hl hk ih =>
  intro s hs
  have L : ∀ d i (s : List Bool),i + d = t.f6.length → s.length = C.length → ∃ s',s'.length = C.length ∧ Ev (fun k => spec_calls.l0 k s (i : Int) t.f0 t.f1 t.f2 t.f3 t.f4 t.f5 t.f6) s' ∧ ∀ j,gt s' j ↔ gt s j ∨ ∃ x ∈ t.f6.drop i,Cl x j:=by
   intro d
   induction d with
   | zero =>
    intro i s hi hs
    obtain rfl : i = t.f6.length:=by omega
    refine ⟨s,hs,Ev.succ ?_,fun j => by simp⟩
    simp only [spec_calls.l0]
    exact Ev.neg (by omega) (Ev.pure _)
   | succ d ihd =>
    intro i s hi hs
    have hi' : i < t.f6.length:=by omega
    have hm:=rd46_mem hi';obtain ⟨s1,l1,e1,a1⟩:=ih _ hm s hs;obtain ⟨s2,l2,e2,b1⟩:=ihd (i + 1) s1 (by omega) l1
    refine ⟨s2,l2,Ev.succ ?_,fun j => ?_⟩
    ·simp only [spec_calls.l0]
     refine Ev.pos (by omega) (Ev.pos (by omega) (Ev.bind e1 ?_))
     rw [wnext hi' (by omega)];exact e2
    ·have ex : rd_T46 t.f6 (i : Int) = t.f6[i]:=by
      unfold rd_T46
      rw [List.getD_eq_getElem?_getD,Int.toNat_natCast,List.getElem?_eq_getElem hi']
      rfl
     rw [b1 j,a1 j,drop_cons hi',ex]
     constructor
     ·rintro ((h | h) | ⟨x,hx,h⟩)
      ·exact Or.inl h
      ·exact Or.inr ⟨_,List.mem_cons_self,h⟩
      ·exact Or.inr ⟨x,List.mem_cons_of_mem _ hx,h⟩
     ·rintro (h | ⟨x,hx,h⟩)
      ·exact Or.inl (Or.inl h)
      ·rcases List.mem_cons.1 hx with rfl | hx
       ·exact Or.inl (Or.inr h)
       ·exact Or.inr ⟨x,hx,h⟩
  by_cases c4 : t.f0 = 4
  ·obtain ⟨⟨ht0,ht1⟩,hl0⟩:=h4 c4
   obtain ⟨j,hj⟩ : ∃ j : Nat,t.f1 = (j : Int):=⟨t.f1.toNat,by omega⟩;have hnil : t.f6 = []:=List.eq_nil_of_length_eq_zero hl0
   have hjl : j < s.length:=by omega
   obtain ⟨s',l',e',p⟩:=L t.f6.length 0 (s.set j true) (by omega) (by simpa using hs)
   refine ⟨s',l',Ev.succ ?_,fun m => ?_⟩
   ·simp only [spec_calls.f]
    refine Ev.pos c4 (Ev.pos (by omega) (Ev.pos (by omega) (Ev.succ ?_)))
    simp only [spec_calls.j0];rw [show t.f1.toNat = j from by omega]
    exact e'
   ·rw [p m,gt_set hjl,List.drop_zero]
    constructor
    ·rintro ((rfl | h) | ⟨x,hx,h⟩)
     ·exact Or.inr (Cl.here _ _ c4 hj)
     ·exact Or.inl h
     ·exact Or.inr (Cl.kid _ _ _ hx h)
    ·rintro (h | h)
     ·exact Or.inl (Or.inr h)
     ·cases h with
      | here _ _ _ e => exact Or.inl (Or.inl (by omega))
      | kid _ x _ hx h => exact Or.inr ⟨x,hx,h⟩
  ·obtain ⟨s',l',e',p⟩:=L t.f6.length 0 s (by omega) hs
   refine ⟨s',l',Ev.succ ?_,fun m => ?_⟩
   ·simp only [spec_calls.f]
    refine Ev.neg c4 (Ev.succ ?_)
    simp only [spec_calls.j0]
    exact e'
   ·rw [p m,List.drop_zero]
    constructor
    ·rintro (h | ⟨x,hx,h⟩)
     ·exact Or.inl h
     ·exact Or.inr (Cl.kid _ _ _ hx h)
    ·rintro (h | h)
     ·exact Or.inl h
     ·cases h with
      | here _ _ h _ => exact absurd h c4
      | kid _ x _ hx h => exact Or.inr ⟨x,hx,h⟩
open Classical in
noncomputable def outs (C : List S48) (a n : Nat) : List Int:=((List.range n).filter fun j => decide (Rc C a j)).map fun j : Nat => (j : Int)
theorem outs_mem {C : List S48} {a n : Nat} {x : Int} : x ∈ outs C a n ↔ ∃ j : Nat,j < n ∧ Rc C a j ∧ x = (j : Int):=by
 unfold outs
 simp only [List.mem_map,List.mem_filter,List.mem_range,decide_eq_true_eq]
 constructor
 ·rintro ⟨j,⟨h1,h2⟩,rfl⟩;exact ⟨j,h1,h2,rfl⟩
 ·rintro ⟨j,h1,h2,rfl⟩;exact ⟨j,⟨h1,h2⟩,rfl⟩
theorem outs_up {C : List S48} {a n : Nat} : (outs C a n).Pairwise (· < ·):=by
 unfold outs
 refine List.Pairwise.map _ (fun x y (h : x < y) => by omega) ?_
 exact List.Pairwise.filter _ List.pairwise_lt_range
theorem outs_len {C : List S48} {a n : Nat} : (outs C a n).length ≤ n:=by
 unfold outs
 rw [List.length_map];have:=List.length_filter_le (fun j => @decide (Rc C a j) (Classical.propDecidable _)) (List.range n);rw [List.length_range] at this
 exact this
theorem outs_yes {C : List S48} {a n : Nat} (h : Rc C a n) : outs C a (n + 1) = outs C a n ++ [(n : Int)]:=by
 unfold outs
 rw [List.range_succ,List.filter_append,List.map_append]
 simp [h]
theorem outs_no {C : List S48} {a n : Nat} (h : ¬ Rc C a n) : outs C a (n + 1) = outs C a n:=by
 unfold outs
 rw [List.range_succ,List.filter_append,List.map_append]
 simp [h]
theorem outs_nil {C : List S48} {a : Nat} : ∀ n,(∀ j,j < n → ¬ Rc C a j) → outs C a n = []:=by
 intro n
 induction n with
 | zero => intro _;rfl
 | succ n ih => intro h;rw [outs_no (h n (by omega)),ih (fun j hj => h j (by omega))]
section
variable {C : List S48} (hC : C.length ≤ 4) (hf : ∀ j : Nat,j < C.length → TFit (C.length : Int) (j : Int) 4 (rd_T48 C (j : Int)).f3)
include hf
theorem Rc.in {a j : Nat} (ha : a < C.length) (h : Rc C a j) : a < j ∧ j < C.length:=by
 induction h with
 | one j h => have:=Cl.fit h 4 (hf a ha);omega
 | more i j _ g ih => have:=Cl.fit g 4 (hf i ih.2);omega
theorem below_comp : ∀ m,m ≤ C.length → ∀ j : Nat,C.length - m ≤ j → j < C.length → ∀ s : List Bool,s.length = C.length → ∃ s',s'.length = C.length ∧ Ev (fun k => impl_below.f k C (rd_T48 C (j : Int)).f3.f0 (rd_T48 C (j : Int)).f3.f1 (rd_T48 C (j : Int)).f3.f2 (rd_T48 C (j : Int)).f3.f3 (rd_T48 C (j : Int)).f3.f4 (rd_T48 C (j : Int)).f3.f5 (rd_T48 C (j : Int)).f3.f6 s) s' ∧ Post C (bodyOf C j) s s':=by
 intro m
 induction m with
 | zero => intro hm j h1 h2;omega
 | succ m ih =>
  intro hm j h1 h2 s hs
  exact below_tree (at':=(j : Int)) (by omega) (fun i g1 g2 => ih (by omega) i (by omega) g2) 4 _ (hf j h2) s hs
include hC
theorem impl_list {a : Nat} (ha : a < C.length) : Ev (fun k => impl_ProgBelow.j0 k C (a : Int) false) (outs C a C.length):=by
 obtain ⟨s,l,e,-,p2,p3,p4⟩:=below_comp hf C.length (Nat.le_refl _) a (by omega) ha (List.replicate C.length false) (by simp)
 have is : ∀ j,gt s j ↔ Rc C a j:=by
  intro j
  constructor
  ·intro h
   rcases p3 j h with h | h | ⟨i,h,g⟩
   ·exact absurd h (gt_no _ _)
   ·exact Rc.one j h
   ·exact Rc.trans (Rc.one i h) g
  ·intro h
   induction h with
   | one j h => exact p2 j h
   | more i j _ g ih => exact p4 i ih (gt_no _ _) j g
 have L : ∀ d i,i + d = C.length → Ev (fun k => impl_ProgBelow.l0 k (outs C a i) s (C.length : Int) (i : Int)) (outs C a C.length):=by
  intro d
  induction d with
  | zero =>
   intro i hi
   obtain rfl : i = C.length:=by omega
   refine Ev.succ ?_
   simp only [impl_ProgBelow.l0]
   exact Ev.neg (by omega) (Ev.pure _)
  | succ d ih =>
   intro i hi
   have hi' : i < C.length:=by omega
   have nx:=ih (i + 1) (by omega);have ol:=outs_len (C:=C) (a:=a) (n:=i)
   refine Ev.succ ?_
   simp only [impl_ProgBelow.l0]
   refine Ev.pos (by omega) (Ev.pos (by omega) (Ev.pos (by omega) ?_))
   rw [wnext hi' (by omega)]
   by_cases c : Rc C a i
   ·rw [outs_yes c] at nx
    exact Ev.pos ((is i).2 c) (Ev.pos (by omega) nx)
   ·rw [outs_no c] at nx
    exact Ev.neg (fun h => c ((is i).1 h)) nx
 refine Ev.succ ?_
 simp only [impl_ProgBelow.j0]
 have lr : (List.replicate C.length false).length = C.length:=by simp
 refine Ev.neg (by simp) (Ev.pos (by omega) (Ev.pos (by omega) (Ev.bind (Ev.pure _) (Ev.pos (by omega) (Ev.pos (by omega) (Ev.bind (a:=s) ?_ ?_))))))
 ·rw [Int.toNat_natCast];exact e
 ·rw [Int.toNat_natCast,lr]
  exact L C.length 0 (by omega)
theorem spec_list {a : Nat} (ha : a < C.length) : Ev (fun k => spec_ProgBelow.j0 k C (a : Int) false) (outs C a C.length):=by
 obtain ⟨s0,l0,e0,p0⟩:=calls_tree (C:=C) (at':=(a : Int)) (by omega) 4 _ (hf a ha) (List.replicate C.length false) (by simp)
 have L : ∀ d i (s : List Bool),i + d = C.length → s.length = C.length → (∀ j,gt s j ↔ Cl (bodyOf C a) j ∨ ∃ m,m < i ∧ Rc C a m ∧ Cl (bodyOf C m) j) → Ev (fun k => spec_ProgBelow.l0 k C s (outs C a i) (i : Int)) (outs C a C.length):=by
  intro d
  induction d with
  | zero =>
   intro i s hi hs _
   obtain rfl : i = C.length:=by omega
   refine Ev.succ ?_
   simp only [spec_ProgBelow.l0]
   exact Ev.neg (by omega) (Ev.pure _)
  | succ d ih =>
   intro i s hi hs is
   have hi' : i < C.length:=by omega
   have ol:=outs_len (C:=C) (a:=a) (n:=i)
   have now : gt s i ↔ Rc C a i:=by
    rw [is i]
    constructor
    ·rintro (h | ⟨m,_,h,g⟩)
     ·exact Rc.one i h
     ·exact Rc.more m i h g
    ·intro h
     cases h with
     | one _ h => exact Or.inl h
     | more m _ h g =>
      have h1:=Rc.in hf ha h;have:=Cl.fit g 4 (hf m h1.2)
      exact Or.inr ⟨m,by omega,h,g⟩
   refine Ev.succ ?_
   simp only [spec_ProgBelow.l0]
   refine Ev.pos (by omega) (Ev.pos (by omega) (Ev.pos (by omega) ?_))
   rw [wnext hi' (by omega)]
   by_cases c : Rc C a i
   ·obtain ⟨s',l',e',p'⟩:=calls_tree (C:=C) (at':=(i : Int)) (by omega) 4 _ (hf i hi') s hs
    have nx:=ih (i + 1) s' (by omega) l' (fun j => by
     rw [p' j,is j]
     constructor
     ·rintro ((h | ⟨m,h1,h2,h3⟩) | h)
      ·exact Or.inl h
      ·exact Or.inr ⟨m,by omega,h2,h3⟩
      ·exact Or.inr ⟨i,by omega,c,h⟩
     ·rintro (h | ⟨m,h1,h2,h3⟩)
      ·exact Or.inl (Or.inl h)
      ·by_cases e : m = i
       ·subst e;exact Or.inr h3
       ·exact Or.inl (Or.inr ⟨m,by omega,h2,h3⟩))
    rw [outs_yes c] at nx
    exact Ev.pos (now.2 c) (Ev.bind e' (Ev.pos (by omega) nx))
   ·have nx:=ih (i + 1) s (by omega) hs (fun j => by
     rw [is j]
     constructor
     ·rintro (h | ⟨m,h1,h2,h3⟩)
      ·exact Or.inl h
      ·exact Or.inr ⟨m,by omega,h2,h3⟩
     ·rintro (h | ⟨m,h1,h2,h3⟩)
      ·exact Or.inl h
      ·by_cases e : m = i
       ·subst e;exact absurd h2 c
       ·exact Or.inr ⟨m,by omega,h2,h3⟩)
    rw [outs_no c] at nx
    exact Ev.neg (fun h => c (now.1 h)) nx
 have fin:=L (C.length - (a + 1)) (a + 1) s0 (by omega) l0 (fun j => by
  rw [p0 j]
  constructor
  ·rintro (h | h)
   ·exact absurd h (gt_no _ _)
   ·exact Or.inl h
  ·rintro (h | ⟨m,h1,h2,_⟩)
   ·exact Or.inr h
   ·have:=Rc.in hf ha h2
    omega)
 rw [outs_nil (a + 1) (fun j hj h => by have:=Rc.in hf ha h;omega)] at fin
 refine Ev.succ ?_
 simp only [spec_ProgBelow.j0]
 refine Ev.neg (by simp) (Ev.pos (by omega) (Ev.pos (by omega) (Ev.pos (by omega) (Ev.pos (by omega) (Ev.bind (a:=s0) ?_ ?_)))))
 ·rw [Int.toNat_natCast];exact e0
 ·rw [wnext ha (by omega)];exact fin
end
theorem below_ok {C : List S48} (h : PS C) : (∃ b,b = true ∧ Ev (fun k => impl_ProgOk.f k C) b ∧ Ev (fun k => spec_validProg.f k C) b ∧ ∀ j : Nat,j < C.length → TFit (C.length : Int) (j : Int) 4 (rd_T48 C (j : Int)).f3) ∨ (∀ x : Int,Ev (fun k => impl_ProgBelow.f k C x) [] ∧ Ev (fun k => spec_ProgBelow.f k C x) []):=by
 obtain ⟨b,e1,e2,hf⟩:=prog_ok h
 cases b with
 | true => exact Or.inl ⟨true,rfl,e1,e2,hf rfl⟩
 | false =>
  refine Or.inr fun x => ⟨?_,?_⟩
  ·simp only [impl_ProgBelow.f]
   refine Ev.bind e1 (Ev.neg (by simp) (Ev.succ ?_))
   simp only [impl_ProgBelow.j0]
   exact Ev.pos trivial (Ev.pure _)
  ·simp only [spec_ProgBelow.f]
   refine Ev.bind e2 (Ev.neg (by simp) (Ev.succ ?_))
   simp only [spec_ProgBelow.j0]
   exact Ev.pos trivial (Ev.pure _)
theorem rdInt_in {l : List Int} {i : Nat} (h : i < l.length) : rd l (i : Int) = l[i]:=by
 unfold rd
 rw [List.getD_eq_getElem?_getD,Int.toNat_natCast,List.getElem?_eq_getElem h]
 rfl
theorem same_ev (l : List Int) (hl : l.length ≤ 10) : Ev (fun k => spec_SameInts.f k l l) true:=by
 simp only [spec_SameInts.f]
 refine Ev.pos trivial ?_
 exact Ev.up (n:=l.length) (F:=fun k i => spec_SameInts.l0 k l l (i : Int)) (v:=true)
  (Ev.succ (by simp only [spec_SameInts.l0];exact Ev.neg (by omega) (Ev.pure _)))
  (fun i hi g => Ev.succ (by
   simp only [spec_SameInts.l0];rw [wnext hi (by omega)]
   exact Ev.pos (by omega) (Ev.pos (by omega) (Ev.pos (by omega) (Ev.pos trivial g))))) 0 (by omega)
theorem has_ev (l : List Int) (hl : l.length ≤ 10) (x : Int) (hx : x ∈ l) : Ev (fun k => spec_hasInt.f k l x) true:=by
 obtain ⟨j,hj,rfl⟩:=List.mem_iff_getElem.1 hx;simp only [spec_hasInt.f]
 have key : ∀ i,i ≤ j → Ev (fun k => spec_hasInt.l0 k l l[j] (i : Int)) true:=by
  intro i hi
  obtain ⟨d,hd⟩ : ∃ d,d = j - i:=⟨_,rfl⟩
  induction d generalizing i with
  | zero =>
   obtain rfl : i = j:=by omega
   refine Ev.succ ?_
   simp only [spec_hasInt.l0]
   exact Ev.pos (by omega) (Ev.pos (by omega) (Ev.pos (rdInt_in hj) (Ev.pure _)))
  | succ d ih =>
   refine Ev.succ ?_
   simp only [spec_hasInt.l0]
   refine Ev.pos (by omega) (Ev.pos (by omega) ?_)
   by_cases c : rd l (i : Int) = l[j]
   ·exact Ev.pos c (Ev.pure _)
   ·refine Ev.neg c ?_
    rw [wnext (show i < l.length by omega) (by omega)]
    exact ih (i + 1) (by omega) (by omega)
 exact key 0 (by omega)
theorem allIn_ev (a l : List Int) (ha : a.length ≤ 10) (hl : l.length ≤ 10) (h : ∀ x ∈ a,x ∈ l) : Ev (fun k => spec_AllIn.f k a l) true:=by
 simp only [spec_AllIn.f]
 exact Ev.up (n:=a.length) (F:=fun k i => spec_AllIn.l0 k a l (i : Int)) (v:=true)
  (Ev.succ (by simp only [spec_AllIn.l0];exact Ev.neg (by omega) (Ev.pure _)))
  (fun i hi g => Ev.succ (by
   simp only [spec_AllIn.l0];rw [wnext hi (by omega)]
   refine Ev.pos (by omega) (Ev.pos (by omega) (Ev.bind (has_ev l hl (rd a (i : Int)) ?_) (Ev.pos rfl g)))
   rw [rdInt_in hi]
   exact h _ (List.getElem_mem hi))) 0 (by omega)
theorem below_is {C : List S48} (h : PS C) (x : Int) : ∃ out,Ev (fun k => impl_ProgBelow.f k C x) out ∧ Ev (fun k => spec_ProgBelow.f k C x) out ∧
  (out = [] ∨ ∃ a : Nat,x = (a : Int) ∧ a < C.length ∧ out = outs C a C.length ∧ (∀ j : Nat,j < C.length → TFit (C.length : Int) (j : Int) 4 (rd_T48 C (j : Int)).f3) ∧ ∀ i : Nat,i < C.length → Ev (fun k => impl_ProgBelow.f k C (i : Int)) (outs C i C.length)):=by
 obtain ⟨h0,h1,-⟩:=id h
 rcases below_ok h with ⟨b,rfl,e1,e2,hf⟩ | g
 ·have w : wrap64 ((C.length : Int) - 1) = (C.length : Int) - 1:=w64 (by omega) (by omega)
  have all : ∀ i : Nat,i < C.length → Ev (fun k => impl_ProgBelow.f k C (i : Int)) (outs C i C.length) ∧ Ev (fun k => spec_ProgBelow.f k C (i : Int)) (outs C i C.length):=by
   intro i hi
   constructor
   ·simp only [impl_ProgBelow.f]
    refine Ev.bind e1 (Ev.pos rfl (Ev.bind (within_ev _ _ _) ?_))
    rw [w,show (!decide (0 ≤ (i : Int) ∧ (i : Int) ≤ (C.length : Int) - 1)) = false from by rw [decide_eq_true (by omega)];rfl]
    exact impl_list h1 hf hi
   ·simp only [spec_ProgBelow.f]
    refine Ev.bind e2 (Ev.pos rfl (Ev.bind (inRange_ev _ _ _) ?_))
    rw [w,show (!decide (0 ≤ (i : Int) ∧ (i : Int) ≤ (C.length : Int) - 1)) = false from by rw [decide_eq_true (by omega)];rfl]
    exact spec_list h1 hf hi
  by_cases c : 0 ≤ x ∧ x ≤ (C.length : Int) - 1
  ·obtain ⟨a,rfl⟩ : ∃ a : Nat,x = (a : Int):=⟨x.toNat,by omega⟩
   obtain ⟨g1,g2⟩:=all a (by omega)
   exact ⟨_,g1,g2,Or.inr ⟨a,rfl,by omega,rfl,hf,fun i hi => (all i hi).1⟩⟩
  ·refine ⟨[],?_,?_,Or.inl rfl⟩
   ·simp only [impl_ProgBelow.f]
    refine Ev.bind e1 (Ev.pos rfl (Ev.bind (within_ev _ _ _) (Ev.succ ?_)))
    rw [w,decide_eq_false c];simp only [impl_ProgBelow.j0]
    exact Ev.pos rfl (Ev.pure _)
   ·simp only [spec_ProgBelow.f]
    refine Ev.bind e2 (Ev.pos rfl (Ev.bind (inRange_ev _ _ _) (Ev.succ ?_)))
    rw [w,decide_eq_false c];simp only [spec_ProgBelow.j0]
    exact Ev.pos rfl (Ev.pure _)
 ·exact ⟨[],(g x).1,(g x).2,Or.inl rfl⟩
theorem second_ev {C : List S48} (hC : C.length ≤ 4) (hf : ∀ j : Nat,j < C.length → TFit (C.length : Int) (j : Int) 4 (rd_T48 C (j : Int)).f3) {a : Nat} (ha : a < C.length)
  (g : ∀ i : Nat,i < C.length → Ev (fun k => impl_ProgBelow.f k C (i : Int)) (outs C i C.length)) : Ev (fun k => laws_FnProgBelow.l0 k C (a : Int) (outs C a C.length) 0) true:=by
 have hl:=outs_len (C:=C) (a:=a) (n:=C.length);have up:=List.pairwise_iff_getElem.1 (outs_up (C:=C) (a:=a) (n:=C.length))
 have mem : ∀ x,x ∈ outs C a C.length ↔ ∃ j : Nat,j < C.length ∧ Rc C a j ∧ x = (j : Int):=fun x => outs_mem
 revert hl up mem
 generalize outs C a C.length = out
 intro hl up mem
 exact Ev.up (n:=out.length) (F:=fun k i => laws_FnProgBelow.l0 k C (a : Int) out (i : Int)) (v:=true)
  (Ev.succ (by simp only [laws_FnProgBelow.l0];exact Ev.neg (by omega) (Ev.pure _)))
  (fun i hi nx => Ev.succ (by
   simp only [laws_FnProgBelow.l0];rw [wnext hi (by omega),w64 (n:=(i : Int) - 1) (by omega) (by omega)];obtain ⟨j,hj,hr,he⟩:=(mem out[i]).1 (List.getElem_mem hi)
   have hri : rd out (i : Int) = (j : Int):=by rw [rdInt_in hi,he]
   have hin:=Rc.in hf ha hr
   have sub : Ev (fun k => spec_AllIn.f k (outs C j C.length) out) true:=by
    refine allIn_ev _ _ (by have:=outs_len (C:=C) (a:=j) (n:=C.length);omega) (by omega) (fun x hx => ?_)
    obtain ⟨m,hm,hr2,rfl⟩:=outs_mem.1 hx
    exact (mem _).2 ⟨m,hm,Rc.trans hr hr2,rfl⟩
   have gj:=g j hj;rw [hri]
   refine Ev.pos (by omega) (Ev.pos (by omega) (Ev.neg (by omega) ?_))
   by_cases c : i = 0
   ·exact Ev.neg (by omega) (Ev.bind gj (Ev.bind sub (Ev.pos rfl nx)))
   ·obtain ⟨q,rfl⟩ : ∃ q,i = q + 1:=⟨i - 1,by omega⟩
    have hq : rd out (((q + 1 : Nat) : Int) - 1) = out[q]:=by
     rw [show ((q + 1 : Nat) : Int) - 1 = (q : Int) from by omega]
     exact rdInt_in (by omega)
    have hlt:=up q (q + 1) (by omega) hi (by omega)
    refine Ev.pos (by omega) (Ev.pos (by omega) (Ev.pos (by omega) (Ev.neg (by omega) (Ev.bind gj (Ev.bind sub (Ev.pos rfl nx))))))) ) 0 (by omega)
theorem FnProgBelow : laws_FnProgBelow.Pure:=by
 intro l0 _ _ hb
 suffices h : Ev (fun k => laws_FnProgBelow.f k l0) true by
  obtain ⟨K,h⟩:=h
  exact ⟨K,h K (Nat.le_refl _)⟩
 simp only [laws_FnProgBelow.f]
 by_cases c : (l0.length : Int) > 1048576
 ·exact Ev.pos c (Ev.pure _)
 refine Ev.neg c ?_
 obtain ⟨C,a1,f1,e1,hC,s1⟩:=prog_ev (fun C h => by obtain ⟨b,-,e,-⟩:=prog_ok h;exact ⟨b,e⟩) (src_new hb);obtain ⟨v2,a2,f2,e2,-,-,s2⟩:=pick_ev (C.length : Int) s1;obtain ⟨v3,a3,f3,e3,-,-,s3⟩:=pick_ev (C.length : Int) s2;obtain ⟨v4,a4,f4,e4,n0,n1,s4⟩:=pick_ev (([v2,v3,-1,(C.length : Int)] : List Int).length : Int) s3
 have e5 : Ev (fun k => spec_source_one.f k l0 a3 f3 [v2,v3,-1,(C.length : Int)]) (rd [v2,v3,-1,(C.length : Int)] v4,a4,f4):=by
  simp only [spec_source_one.f]
  exact Ev.bind e4 (Ev.pos n0 (Ev.pos (by simp at n1 ⊢;omega) (Ev.pure _)))
 have D : Ev (fun k => spec_DrawProgBelow.f k l0) (C,rd [v2,v3,-1,(C.length : Int)] v4):=by
  simp only [spec_DrawProgBelow.f,spec_newSource.f]
  exact Ev.bind (Ev.pure _) (Ev.bind e1 (Ev.bind e2 (Ev.bind e3 (Ev.bind e5 (Ev.pure _)))))
 obtain ⟨out,i1,i2,ho⟩:=below_is hC (rd [v2,v3,-1,(C.length : Int)] v4)
 have hl : out.length ≤ 10:=by
  rcases ho with rfl | ⟨a,-,-,rfl,-⟩
  ·simp
  ·have:=outs_len (C:=C) (a:=a) (n:=C.length);have:=hC.2.1;omega
 refine Ev.bind D (Ev.bind i1 (Ev.bind i2 (Ev.bind (same_ev out hl) (Ev.pos rfl (Ev.succ ?_)))))
 simp only [laws_FnProgBelow.j0]
 rcases ho with rfl | ⟨a,ha,hal,rfl,hf,g⟩
 ·exact Ev.pos (by simp) (Ev.pure _)
 ·by_cases c : ((outs C a C.length).length : Int) == 0
  ·exact Ev.pos c (Ev.pure _)
  ·refine Ev.neg c ?_
   simp only [ha]
   exact second_ev hC.2.1 hf hal g
end Go.Proofs.Ytmgdjmeoljepgaa.Pure
