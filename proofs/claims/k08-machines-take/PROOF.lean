import PyProof.Rows.All
import Wide.All
import OpenK.AllK
import Wide.FinOn
import HandS.ForMost
import HandS.More
import HandS.Deep
import HandS.SortInts
import HandS.IsInst
import PySem.Challenge.RW_surelyread_k08_machines_take
set_option Elab.async false
set_option linter.all false
set_option maxRecDepth 100000
set_option maxHeartbeats 4000000
/-! The plain law: expressions, their walk (empty, firsts, lasts, followers), what a row of places may do. -/
namespace Gk

/-- a place: part, least, most, cost -/
abbrev Pl := Int × Int × Int × Nat
inductive Tr where
  | pl (p l m : Int) (c : Nat)
  | ch (a b : Tr)
  | sq (a b : Tr)
  | an (a : Tr)
  | so (a : Tr)
  | ma (a : Tr)
def Tr.size : Tr → Nat
  | .pl _ _ _ _ => 1
  | .ch a b => a.size + b.size
  | .sq a b => a.size + b.size
  | .an a => a.size
  | .so a => a.size
  | .ma a => a.size
def Tr.depth : Tr → Nat
  | .pl _ _ _ _ => 0
  | .ch a b => max a.depth b.depth + 1
  | .sq a b => max a.depth b.depth + 1
  | .an a => a.depth + 1
  | .so a => a.depth + 1
  | .ma a => a.depth + 1
def Tr.leaves : Tr → List Pl
  | .pl p l m c => [(p, l, m, c)]
  | .ch a b => a.leaves ++ b.leaves
  | .sq a b => a.leaves ++ b.leaves
  | .an a => a.leaves
  | .so a => a.leaves
  | .ma a => a.leaves
/-- the costs are o, o + 1, .. from the left -/
def Num : Tr → Nat → Prop
  | .pl _ _ _ c, o => c = o
  | .ch a b, o => Num a o ∧ Num b (o + a.size)
  | .sq a b, o => Num a o ∧ Num b (o + a.size)
  | .an a, o => Num a o
  | .so a, o => Num a o
  | .ma a, o => Num a o
theorem leaves_length : ∀ t : Tr, t.leaves.length = t.size
  | .pl _ _ _ _ => rfl
  | .ch a b => by simp [Tr.leaves, Tr.size, leaves_length a, leaves_length b]
  | .sq a b => by simp [Tr.leaves, Tr.size, leaves_length a, leaves_length b]
  | .an a => leaves_length a
  | .so a => leaves_length a
  | .ma a => leaves_length a
theorem num_leaf : ∀ (t : Tr) (o : Nat), Num t o → ∀ (k : Nat) (q : Pl), t.leaves[k]? = some q → q.2.2.2 = o + k
  | .pl p l m c, o, h, k, q, e => by
    cases k with
    | zero =>
      have e' : (p, l, m, c) = q := by simpa [Tr.leaves] using e
      subst e'
      exact h
    | succ k => simp [Tr.leaves] at e
  | .ch a b, o, h, k, q, e => by
    by_cases hk : k < a.size
    · rw [Tr.leaves, List.getElem?_append_left (by rw [leaves_length]; exact hk)] at e
      exact num_leaf a o h.1 k q e
    · rw [Tr.leaves, List.getElem?_append_right (by rw [leaves_length]; omega), leaves_length] at e
      have := num_leaf b _ h.2 _ q e
      omega
  | .sq a b, o, h, k, q, e => by
    by_cases hk : k < a.size
    · rw [Tr.leaves, List.getElem?_append_left (by rw [leaves_length]; exact hk)] at e
      exact num_leaf a o h.1 k q e
    · rw [Tr.leaves, List.getElem?_append_right (by rw [leaves_length]; omega), leaves_length] at e
      have := num_leaf b _ h.2 _ q e
      omega
  | .an a, o, h, k, q, e => num_leaf a o h k q e
  | .so a, o, h, k, q, e => num_leaf a o h k q e
  | .ma a, o, h, k, q, e => num_leaf a o h k q e
theorem size_pos : ∀ t : Tr, 0 < t.size
  | .pl _ _ _ _ => Nat.one_pos
  | .ch a _ => Nat.lt_of_lt_of_le (size_pos a) (Nat.le_add_right _ _)
  | .sq a _ => Nat.lt_of_lt_of_le (size_pos a) (Nat.le_add_right _ _)
  | .an a => size_pos a
  | .so a => size_pos a
  | .ma a => size_pos a
theorem size_le : ∀ t : Tr, t.size ≤ 2 ^ t.depth
  | .pl _ _ _ _ => Nat.le_refl _
  | .ch a b => by
    have h1 := size_le a
    have h2 := size_le b
    have h3 : 2 ^ a.depth ≤ 2 ^ max a.depth b.depth := Nat.pow_le_pow_right (by decide) (Nat.le_max_left _ _)
    have h4 : 2 ^ b.depth ≤ 2 ^ max a.depth b.depth := Nat.pow_le_pow_right (by decide) (Nat.le_max_right _ _)
    simp only [Tr.size, Tr.depth, Nat.pow_succ]
    omega
  | .sq a b => by
    have h1 := size_le a
    have h2 := size_le b
    have h3 : 2 ^ a.depth ≤ 2 ^ max a.depth b.depth := Nat.pow_le_pow_right (by decide) (Nat.le_max_left _ _)
    have h4 : 2 ^ b.depth ≤ 2 ^ max a.depth b.depth := Nat.pow_le_pow_right (by decide) (Nat.le_max_right _ _)
    simp only [Tr.size, Tr.depth, Nat.pow_succ]
    omega
  | .an a => by
    have h1 := size_le a
    simp only [Tr.size, Tr.depth, Nat.pow_succ]
    omega
  | .so a => by
    have h1 := size_le a
    simp only [Tr.size, Tr.depth, Nat.pow_succ]
    omega
  | .ma a => by
    have h1 := size_le a
    simp only [Tr.size, Tr.depth, Nat.pow_succ]
    omega

/-! ### what the expression allows between two places of a row -/
inductive Rtg (R : Nat → Nat → Prop) : Nat → Nat → Prop
  | refl {i : Nat} : Rtg R i i
  | head {i k j : Nat} : R i k → Rtg R k j → Rtg R i j
def Rd (row : List Nat) : Tr → Nat → Nat → Prop
  | .pl _ _ _ c => fun i j => row[i]? = some c ∧ j = i + 1
  | .ch a b => fun i j => Rd row a i j ∨ Rd row b i j
  | .sq a b => fun i j => ∃ k, Rd row a i k ∧ Rd row b k j
  | .an a => Rtg (Rd row a)
  | .so a => fun i j => ∃ k, Rd row a i k ∧ Rtg (Rd row a) k j
  | .ma a => fun i j => i = j ∨ Rd row a i j
theorem rtg_le {R : Nat → Nat → Prop} {N : Nat} (h : ∀ i j, i ≤ N → R i j → i ≤ j ∧ j ≤ N) {i j : Nat} (r : Rtg R i j) : i ≤ N → i ≤ j ∧ j ≤ N := by
  induction r with
  | refl => exact fun h => ⟨Nat.le_refl _, h⟩
  | head a _ ih =>
    intro hi
    obtain ⟨h1, h2⟩ := h _ _ hi a
    obtain ⟨h3, h4⟩ := ih h2
    exact ⟨Nat.le_trans h1 h3, h4⟩
theorem rd_le {row : List Nat} : ∀ (t : Tr) (i j : Nat), i ≤ row.length → Rd row t i j → i ≤ j ∧ j ≤ row.length
  | .pl _ _ _ c, i, j, _, h => by
    obtain ⟨h1, h2⟩ := h
    obtain ⟨h3, _⟩ := List.getElem?_eq_some_iff.mp h1
    omega
  | .ch a b, i, j, hi, h => by
    rcases h with h | h
    · exact rd_le a i j hi h
    · exact rd_le b i j hi h
  | .sq a b, i, j, hi, h => by
    obtain ⟨k, h1, h2⟩ := h
    obtain ⟨h3, h4⟩ := rd_le a i k hi h1
    obtain ⟨h5, h6⟩ := rd_le b k j h4 h2
    exact ⟨Nat.le_trans h3 h5, h6⟩
  | .an a, i, j, hi, h => rtg_le (rd_le a) h hi
  | .so a, i, j, hi, h => by
    obtain ⟨k, h1, h2⟩ := h
    obtain ⟨h3, h4⟩ := rd_le a i k hi h1
    obtain ⟨h5, h6⟩ := rtg_le (rd_le a) h2 h4
    exact ⟨Nat.le_trans h3 h5, h6⟩
  | .ma a, i, j, hi, h => by
    rcases h with h | h
    · subst h
      exact ⟨Nat.le_refl _, hi⟩
    · exact rd_le a i j hi h

/-! ### behind: the law's own walk over the expression -/
section
variable {α : Type} [DecidableEq α]
def once (xs : List α) : List α := xs.foldl (fun acc x => if x ∈ acc then acc else acc ++ [x]) []
theorem once_fold_mem {y : α} : ∀ (xs acc : List α), y ∈ xs.foldl (fun acc x => if x ∈ acc then acc else acc ++ [x]) acc ↔ y ∈ acc ∨ y ∈ xs
  | [], acc => by simp
  | x :: xs, acc => by
    rw [List.foldl_cons, once_fold_mem xs]
    by_cases h : x ∈ acc
    · rw [if_pos h]
      constructor
      · rintro (h1 | h1)
        · exact .inl h1
        · exact .inr (List.mem_cons_of_mem _ h1)
      · rintro (h1 | h1)
        · exact .inl h1
        · rcases List.mem_cons.mp h1 with e | h1
          · exact .inl (e ▸ h)
          · exact .inr h1
    · rw [if_neg h]
      simp only [List.mem_append, List.mem_cons, List.not_mem_nil, or_false]
      constructor
      · rintro ((h1 | h1) | h1)
        · exact .inl h1
        · exact .inr (.inl h1)
        · exact .inr (.inr h1)
      · rintro (h1 | h1 | h1)
        · exact .inl (.inl h1)
        · exact .inl (.inr h1)
        · exact .inr h1
theorem mem_once {y : α} {xs : List α} : y ∈ once xs ↔ y ∈ xs := by
  unfold once
  rw [once_fold_mem]
  simp
omit [DecidableEq α] in
theorem nodup_snoc {x : α} {acc : List α} (h : x ∉ acc) (n : acc.Nodup) : (acc ++ [x]).Nodup :=
  List.nodup_append.mpr ⟨n, by simp, fun a ha b hb e => by
    have : b = x := by simpa using hb
    exact h (by rw [← this, ← e]; exact ha)⟩
theorem once_fold_nodup : ∀ (xs acc : List α), acc.Nodup → (xs.foldl (fun acc x => if x ∈ acc then acc else acc ++ [x]) acc).Nodup
  | [], acc, h => h
  | x :: xs, acc, h => by
    rw [List.foldl_cons]
    refine once_fold_nodup xs _ ?_
    by_cases hx : x ∈ acc
    · rw [if_pos hx]; exact h
    · rw [if_neg hx]; exact nodup_snoc hx h
theorem once_nodup (xs : List α) : (once xs).Nodup := once_fold_nodup xs [] List.nodup_nil
theorem once_fold_len : ∀ (xs acc : List α), (xs.foldl (fun acc x => if x ∈ acc then acc else acc ++ [x]) acc).length ≤ acc.length + xs.length
  | [], acc => Nat.le_refl _
  | x :: xs, acc => by
    rw [List.foldl_cons]
    refine Nat.le_trans (once_fold_len xs _) ?_
    by_cases hx : x ∈ acc
    · rw [if_pos hx, List.length_cons]; omega
    · rw [if_neg hx, List.length_cons, List.length_append, List.length_singleton]; omega
theorem once_len (xs : List α) : (once xs).length ≤ xs.length := by
  have := once_fold_len xs []
  unfold once
  simpa using this
theorem once_snoc (xs : List α) (x : α) : once (xs ++ [x]) = if x ∈ once xs then once xs else once xs ++ [x] := by
  unfold once
  rw [List.foldl_append]
  rfl
theorem once_fold_head {y : α} : ∀ (xs acc : List α), acc.head? = some y → (xs.foldl (fun acc x => if x ∈ acc then acc else acc ++ [x]) acc).head? = some y
  | [], acc, h => h
  | x :: xs, acc, h => by
    rw [List.foldl_cons]
    refine once_fold_head xs _ ?_
    by_cases hx : x ∈ acc
    · rw [if_pos hx]; exact h
    · rw [if_neg hx, List.head?_append, h]; rfl
theorem once_head {x : α} {xs : List α} : (once (x :: xs)).head? = some x := once_fold_head xs [x] rfl
end
/-- different numbers below N: at most N of them -/
theorem nodup_bound : ∀ (N : Nat) (l : List Nat), l.Nodup → (∀ x ∈ l, x < N) → l.length ≤ N
  | 0, [], _, _ => Nat.le_refl _
  | 0, x :: _, _, h => absurd (h x List.mem_cons_self) (Nat.not_lt_zero _)
  | N + 1, l, hn, h => by
    have h1 : (l.erase N).length ≤ N := nodup_bound N (l.erase N) (hn.erase N) fun x hx => by
      obtain ⟨h2, h3⟩ := (List.Nodup.mem_erase_iff hn).mp hx
      have := h x h3
      omega
    by_cases hm : N ∈ l
    · rw [List.length_erase_of_mem hm] at h1
      omega
    · rw [List.erase_of_not_mem hm] at h1
      omega

def loopB (f : List Nat → List Nat) : Nat → List Nat → List Nat → List Nat
  | 0, _, found => found
  | n + 1, s, found => loopB f n (once (f s)) (found ++ once (f s))
def behM (row : List Nat) : Tr → List Nat → List Nat
  | .pl _ _ _ c => fun s => (s.filter fun i => decide (row[i]? = some c)).map (· + 1)
  | .ch a b => fun s => behM row a s ++ behM row b s
  | .sq a b => fun s => behM row b (behM row a s)
  | .an a => fun s => once (loopB (behM row a) (row.length + 1) s s)
  | .so a => fun s => once (loopB (behM row a) (row.length + 1) s [])
  | .ma a => fun s => s ++ behM row a s
/-- m steps -/
def Pw (R : Nat → Nat → Prop) : Nat → Nat → Nat → Prop
  | 0 => fun i j => i = j
  | n + 1 => fun i j => ∃ k, R i k ∧ Pw R n k j
theorem pw_rtg {R : Nat → Nat → Prop} : ∀ (m i j : Nat), Pw R m i j → Rtg R i j
  | 0, i, j, h => by
    have e : i = j := h
    subst e
    exact .refl
  | m + 1, i, j, h => by
    obtain ⟨k, h1, h2⟩ := h
    exact .head h1 (pw_rtg m k j h2)
theorem rtg_pw {R : Nat → Nat → Prop} {N : Nat} (h : ∀ i j, i ≤ N → R i j → i ≤ j ∧ j ≤ N) {i j : Nat} (r : Rtg R i j) : i ≤ N → i = j ∨ ∃ m, 1 ≤ m ∧ m ≤ j - i ∧ Pw R m i j := by
  induction r with
  | refl => exact fun _ => .inl rfl
  | @head i k j a r ih =>
    intro hi
    obtain ⟨h1, h2⟩ := h _ _ hi a
    obtain ⟨h3, h4⟩ := rtg_le h r h2
    by_cases e : i = k
    · subst e
      exact ih hi
    · rcases ih h2 with h5 | ⟨m, h5, h6, h7⟩
      · subst h5
        exact .inr ⟨1, Nat.le_refl _, by omega, k, a, rfl⟩
      · exact .inr ⟨m + 1, by omega, by omega, k, a, h7⟩
theorem mem_loopB {f : List Nat → List Nat} {R : Nat → Nat → Prop} {N : Nat} (hR : ∀ i j, i ≤ N → R i j → i ≤ j ∧ j ≤ N) (hf : ∀ s, (∀ i ∈ s, i ≤ N) → ∀ j, j ∈ f s ↔ ∃ i ∈ s, R i j) {j : Nat} :
    ∀ (n : Nat) (s found : List Nat), (∀ i ∈ s, i ≤ N) → (j ∈ loopB f n s found ↔ j ∈ found ∨ ∃ m, 1 ≤ m ∧ m ≤ n ∧ ∃ i ∈ s, Pw R m i j)
  | 0, s, found, _ => by
    constructor
    · exact .inl
    · rintro (h | ⟨m, h1, h2, _⟩)
      · exact h
      · omega
  | n + 1, s, found, hs => by
    have hs' : ∀ i ∈ once (f s), i ≤ N := fun i hi => by
      obtain ⟨k, hk, r⟩ := (hf s hs i).mp (mem_once.mp hi)
      exact (hR k i (hs k hk) r).2
    rw [loopB, mem_loopB hR hf n _ _ hs', List.mem_append, mem_once, hf s hs]
    constructor
    · rintro ((h | ⟨i, hi, r⟩) | ⟨m, h1, h2, i, hi, p⟩)
      · exact .inl h
      · exact .inr ⟨1, Nat.le_refl _, by omega, i, hi, j, r, rfl⟩
      · obtain ⟨k, hk, r⟩ := (hf s hs i).mp (mem_once.mp hi)
        exact .inr ⟨m + 1, by omega, by omega, k, hk, i, r, p⟩
    · rintro (h | ⟨m, h1, h2, i, hi, p⟩)
      · exact .inl (.inl h)
      · cases m with
        | zero => omega
        | succ m =>
          obtain ⟨k, r, p⟩ := p
          cases m with
          | zero =>
            have e : k = j := p
            subst e
            exact .inl (.inr ⟨i, hi, r⟩)
          | succ m => exact .inr ⟨m + 1, by omega, by omega, k, mem_once.mpr ((hf s hs k).mpr ⟨i, hi, r⟩), p⟩
theorem mem_beh {row : List Nat} : ∀ (t : Tr) (s : List Nat), (∀ i ∈ s, i ≤ row.length) → ∀ j, j ∈ behM row t s ↔ ∃ i ∈ s, Rd row t i j
  | .pl p l m c, s, _, j => by
    show j ∈ (s.filter fun i => decide (row[i]? = some c)).map (· + 1) ↔ _
    rw [List.mem_map]
    constructor
    · rintro ⟨i, hi, rfl⟩
      obtain ⟨h1, h2⟩ := List.mem_filter.mp hi
      exact ⟨i, h1, of_decide_eq_true h2, rfl⟩
    · rintro ⟨i, hi, h1, h2⟩
      exact ⟨i, List.mem_filter.mpr ⟨hi, decide_eq_true h1⟩, h2.symm⟩
  | .ch a b, s, hs, j => by
    show j ∈ behM row a s ++ behM row b s ↔ _
    rw [List.mem_append, mem_beh a s hs, mem_beh b s hs]
    constructor
    · rintro (⟨i, hi, h⟩ | ⟨i, hi, h⟩)
      · exact ⟨i, hi, .inl h⟩
      · exact ⟨i, hi, .inr h⟩
    · rintro ⟨i, hi, h | h⟩
      · exact .inl ⟨i, hi, h⟩
      · exact .inr ⟨i, hi, h⟩
  | .sq a b, s, hs, j => by
    have hs' : ∀ i ∈ behM row a s, i ≤ row.length := fun i hi => by
      obtain ⟨k, hk, r⟩ := (mem_beh a s hs i).mp hi
      exact (rd_le a k i (hs k hk) r).2
    show j ∈ behM row b (behM row a s) ↔ _
    rw [mem_beh b _ hs']
    constructor
    · rintro ⟨k, hk, h⟩
      obtain ⟨i, hi, r⟩ := (mem_beh a s hs k).mp hk
      exact ⟨i, hi, k, r, h⟩
    · rintro ⟨i, hi, k, r, h⟩
      exact ⟨k, (mem_beh a s hs k).mpr ⟨i, hi, r⟩, h⟩
  | .an a, s, hs, j => by
    show j ∈ once (loopB (behM row a) (row.length + 1) s s) ↔ _
    rw [mem_once, mem_loopB (rd_le a) (fun s hs j => mem_beh a s hs j) _ _ _ hs]
    constructor
    · rintro (h | ⟨m, _, _, i, hi, p⟩)
      · exact ⟨j, h, .refl⟩
      · exact ⟨i, hi, pw_rtg _ _ _ p⟩
    · rintro ⟨i, hi, r⟩
      rcases rtg_pw (rd_le a) r (hs i hi) with e | ⟨m, h1, h2, p⟩
      · exact .inl (e ▸ hi)
      · have := (rtg_le (rd_le a) r (hs i hi)).2
        exact .inr ⟨m, h1, by omega, i, hi, p⟩
  | .so a, s, hs, j => by
    show j ∈ once (loopB (behM row a) (row.length + 1) s []) ↔ _
    rw [mem_once, mem_loopB (rd_le a) (fun s hs j => mem_beh a s hs j) _ _ _ hs]
    constructor
    · rintro (h | ⟨m, h1, _, i, hi, p⟩)
      · cases h
      · cases m with
        | zero => omega
        | succ m =>
          obtain ⟨k, r, p⟩ := p
          exact ⟨i, hi, k, r, pw_rtg _ _ _ p⟩
    · rintro ⟨i, hi, k, r, r'⟩
      have h3 := rd_le a i k (hs i hi) r
      rcases rtg_pw (rd_le a) r' h3.2 with e | ⟨m, h1, h2, p⟩
      · exact .inr ⟨1, Nat.le_refl _, by omega, i, hi, k, r, e⟩
      · have := (rtg_le (rd_le a) r' h3.2).2
        exact .inr ⟨m + 1, by omega, by omega, i, hi, k, r, p⟩
  | .ma a, s, hs, j => by
    show j ∈ s ++ behM row a s ↔ _
    rw [List.mem_append, mem_beh a s hs]
    constructor
    · rintro (h | ⟨i, hi, h⟩)
      · exact ⟨j, h, .inl rfl⟩
      · exact ⟨i, hi, .inr h⟩
    · rintro ⟨i, hi, e | h⟩
      · exact .inl (e ▸ hi)
      · exact .inr ⟨i, hi, h⟩

/-! ### rows of places: one follows the other -/
inductive Run (row : List Nat) (Fo : Nat → Nat → Prop) (E : Nat → Prop) : Nat → Nat → Nat → Prop
  | done {x i : Nat} : E x → Run row Fo E x i i
  | step {x y i j : Nat} : row[i]? = some y → Fo x y → Run row Fo E y (i + 1) j → Run row Fo E x i j
def Loc (row : List Nat) (e : Prop) (f l : Nat → Prop) (Fo : Nat → Nat → Prop) (i j : Nat) : Prop :=
  (e ∧ i = j) ∨ ∃ x, row[i]? = some x ∧ f x ∧ Run row Fo l x (i + 1) j
section
variable {row : List Nat}
theorem Run.mono {Fo Fo' : Nat → Nat → Prop} {E E' : Nat → Prop} (h1 : ∀ x y, Fo x y → Fo' x y) (h2 : ∀ x, E x → E' x) {x i j : Nat} (r : Run row Fo E x i j) : Run row Fo' E' x i j := by
  induction r with
  | done h => exact .done (h2 _ h)
  | step a b _ ih => exact .step a (h1 _ _ b) ih
theorem Loc.mono {e e' : Prop} {f f' l l' : Nat → Prop} {Fo Fo' : Nat → Nat → Prop} (h0 : e → e') (hf : ∀ x, f x → f' x) (h1 : ∀ x y, Fo x y → Fo' x y) (h2 : ∀ x, l x → l' x) {i j : Nat} (r : Loc row e f l Fo i j) : Loc row e' f' l' Fo' i j := by
  rcases r with ⟨a, b⟩ | ⟨x, a, b, c⟩
  · exact .inl ⟨h0 a, b⟩
  · exact .inr ⟨x, a, hf x b, c.mono h1 h2⟩
/-- within a closed part nothing else is met -/
theorem Run.keep {D : Nat → Prop} {Fo Fo' : Nat → Nat → Prop} {E E' : Nat → Prop} (h1 : ∀ x y, D x → Fo x y → D y ∧ Fo' x y) (h2 : ∀ x, D x → E x → E' x) {x i j : Nat} (r : Run row Fo E x i j) : D x → Run row Fo' E' x i j := by
  induction r with
  | done h => exact fun d => .done (h2 _ d h)
  | step a b _ ih =>
    intro d
    obtain ⟨d', b'⟩ := h1 _ _ d b
    exact .step a b' (ih d')

/-- the sequence of two -/
theorem loc_seq {ea eb : Prop} {fa la fb lb : Nat → Prop} {Fa Fb : Nat → Nat → Prop} {Da Db : Nat → Prop} (hd : ∀ x, Da x → Db x → False)
    (hfa : ∀ x, fa x → Da x) (hla : ∀ x, la x → Da x) (hFa : ∀ x y, Fa x y → Da x ∧ Da y) (hfb : ∀ x, fb x → Db x) (hlb : ∀ x, lb x → Db x) (hFb : ∀ x y, Fb x y → Db x ∧ Db y) {i j : Nat} :
    Loc row (ea ∧ eb) (fun x => fa x ∨ (ea ∧ fb x)) (fun x => lb x ∨ (eb ∧ la x)) (fun x y => Fa x y ∨ Fb x y ∨ (la x ∧ fb y)) i j ↔ ∃ k, Loc row ea fa la Fa i k ∧ Loc row eb fb lb Fb k j := by
  have hB : ∀ {x i j}, Run row (fun x y => Fa x y ∨ Fb x y ∨ (la x ∧ fb y)) (fun x => lb x ∨ (eb ∧ la x)) x i j → Db x → Run row Fb lb x i j := fun r d => by
    refine r.keep (D := Db) (fun x y d h => ?_) (fun x d h => ?_) d
    · rcases h with h | h | h
      · exact (hd _ (hFa _ _ h).1 d).elim
      · exact ⟨(hFb _ _ h).2, h⟩
      · exact (hd _ (hla _ h.1) d).elim
    · rcases h with h | h
      · exact h
      · exact (hd _ (hla _ h.2) d).elim
  have hA : ∀ {x i j}, Run row (fun x y => Fa x y ∨ Fb x y ∨ (la x ∧ fb y)) (fun x => lb x ∨ (eb ∧ la x)) x i j → Da x → ∃ k, Run row Fa la x i k ∧ Loc row eb fb lb Fb k j := fun r => by
    induction r with
    | @done x i h =>
      intro d
      rcases h with h | h
      · exact (hd _ d (hlb _ h)).elim
      · exact ⟨i, .done h.2, .inl ⟨h.1, rfl⟩⟩
    | @step x y i j a h r ih =>
      intro d
      rcases h with h | h | h
      · obtain ⟨k, h1, h2⟩ := ih (hFa _ _ h).2
        exact ⟨k, .step a h h1, h2⟩
      · exact (hd _ d (hFb _ _ h).1).elim
      · exact ⟨i, .done h.1, .inr ⟨y, a, h.2, hB r (hfb _ h.2)⟩⟩
  have hC : ∀ {x i k}, Run row Fa la x i k → Loc row eb fb lb Fb k j → Run row (fun x y => Fa x y ∨ Fb x y ∨ (la x ∧ fb y)) (fun x => lb x ∨ (eb ∧ la x)) x i j := fun r l => by
    induction r with
    | done h =>
      rcases l with ⟨a, b⟩ | ⟨y, a, b, c⟩
      · subst b
        exact .done (.inr ⟨a, h⟩)
      · exact .step a (.inr (.inr ⟨h, b⟩)) (c.mono (fun _ _ z => .inr (.inl z)) fun _ z => .inl z)
    | step a h _ ih => exact .step a (.inl h) (ih l)
  constructor
  · rintro (⟨⟨a, b⟩, rfl⟩ | ⟨x, a, b, c⟩)
    · exact ⟨i, .inl ⟨a, rfl⟩, .inl ⟨b, rfl⟩⟩
    · rcases b with b | ⟨b, b'⟩
      · obtain ⟨k, h1, h2⟩ := hA c (hfa _ b)
        exact ⟨k, .inr ⟨x, a, b, h1⟩, h2⟩
      · exact ⟨i, .inl ⟨b, rfl⟩, .inr ⟨x, a, b', hB c (hfb _ b')⟩⟩
  · rintro ⟨k, ⟨a, rfl⟩ | ⟨x, a, b, c⟩, h⟩
    · rcases h with ⟨a', e⟩ | ⟨x, b, c, d⟩
      · exact .inl ⟨⟨a, a'⟩, e⟩
      · exact .inr ⟨x, b, .inr ⟨a, c⟩, d.mono (fun _ _ z => .inr (.inl z)) fun _ z => .inl z⟩
    · exact .inr ⟨x, a, .inl b, hC c h⟩
/-- the choice of two -/
theorem loc_choice {ea eb : Prop} {fa la fb lb : Nat → Prop} {Fa Fb : Nat → Nat → Prop} {Da Db : Nat → Prop} (hd : ∀ x, Da x → Db x → False)
    (hfa : ∀ x, fa x → Da x) (hla : ∀ x, la x → Da x) (hFa : ∀ x y, Fa x y → Da x ∧ Da y) (hfb : ∀ x, fb x → Db x) (hlb : ∀ x, lb x → Db x) (hFb : ∀ x y, Fb x y → Db x ∧ Db y) {i j : Nat} :
    Loc row (ea ∨ eb) (fun x => fa x ∨ fb x) (fun x => la x ∨ lb x) (fun x y => Fa x y ∨ Fb x y) i j ↔ Loc row ea fa la Fa i j ∨ Loc row eb fb lb Fb i j := by
  constructor
  · rintro (⟨a | a, e⟩ | ⟨x, a, b | b, c⟩)
    · exact .inl (.inl ⟨a, e⟩)
    · exact .inr (.inl ⟨a, e⟩)
    · refine .inl (.inr ⟨x, a, b, c.keep (D := Da) (fun x y d h => ?_) (fun x d h => ?_) (hfa _ b)⟩)
      · rcases h with h | h
        · exact ⟨(hFa _ _ h).2, h⟩
        · exact (hd _ d (hFb _ _ h).1).elim
      · rcases h with h | h
        · exact h
        · exact (hd _ d (hlb _ h)).elim
    · refine .inr (.inr ⟨x, a, b, c.keep (D := Db) (fun x y d h => ?_) (fun x d h => ?_) (hfb _ b)⟩)
      · rcases h with h | h
        · exact (hd _ (hFa _ _ h).1 d).elim
        · exact ⟨(hFb _ _ h).2, h⟩
      · rcases h with h | h
        · exact (hd _ (hla _ h) d).elim
        · exact h
  · rintro (h | h)
    · exact h.mono .inl (fun _ => .inl) (fun _ _ => .inl) fun _ => .inl
    · exact h.mono .inr (fun _ => .inr) (fun _ _ => .inr) fun _ => .inr
/-- repeated -/
theorem run_rep {e : Prop} {f l : Nat → Prop} {Fo : Nat → Nat → Prop} {x i j : Nat} : Run row (fun x y => Fo x y ∨ (l x ∧ f y)) l x i j ↔ ∃ k, Run row Fo l x i k ∧ Rtg (Loc row e f l Fo) k j := by
  constructor
  · intro r
    induction r with
    | done h => exact ⟨_, .done h, .refl⟩
    | @step x y i j a h r ih =>
      obtain ⟨k, h1, h2⟩ := ih
      rcases h with h | h
      · exact ⟨k, .step a h h1, h2⟩
      · exact ⟨i, .done h.1, .head (.inr ⟨y, a, h.2, h1⟩) h2⟩
  · rintro ⟨k, h1, h2⟩
    induction h2 generalizing x i with
    | refl => exact h1.mono (fun _ _ => .inl) fun _ z => z
    | @head i' k' j' h3 h4 ih =>
      rcases h3 with ⟨_, e⟩ | ⟨y, a, b, c⟩
      · subst e
        exact ih h1
      · have q := ih c
        clear ih
        induction h1 with
        | done h => exact .step a (.inr ⟨h, b⟩) q
        | step a' h' _ ih' => exact .step a' (.inl h') (ih' a c q)
theorem rtg_loc {e : Prop} {f l : Nat → Prop} {Fo : Nat → Nat → Prop} {i j : Nat} (h : Rtg (Loc row e f l Fo) i j) : i = j ∨ ∃ x, row[i]? = some x ∧ f x ∧ Run row (fun x y => Fo x y ∨ (l x ∧ f y)) l x (i + 1) j := by
  induction h with
  | refl => exact .inl rfl
  | head h1 h2 ih =>
    rcases h1 with ⟨_, rfl⟩ | ⟨x, a, b, c⟩
    · exact ih
    · exact .inr ⟨x, a, b, run_rep.mpr ⟨_, c, h2⟩⟩
theorem loc_any {e : Prop} {f l : Nat → Prop} {Fo : Nat → Nat → Prop} {i j : Nat} : Loc row True f l (fun x y => Fo x y ∨ (l x ∧ f y)) i j ↔ Rtg (Loc row e f l Fo) i j := by
  constructor
  · rintro (⟨_, rfl⟩ | ⟨x, a, b, c⟩)
    · exact .refl
    · obtain ⟨k, h1, h2⟩ := (run_rep (e := e)).mp c
      exact .head (.inr ⟨x, a, b, h1⟩) h2
  · intro h
    rcases rtg_loc h with h | h
    · exact .inl ⟨trivial, h⟩
    · exact .inr h
theorem loc_some {e : Prop} {f l : Nat → Prop} {Fo : Nat → Nat → Prop} {i j : Nat} : Loc row e f l (fun x y => Fo x y ∨ (l x ∧ f y)) i j ↔ ∃ k, Loc row e f l Fo i k ∧ Rtg (Loc row e f l Fo) k j := by
  constructor
  · rintro (⟨h, rfl⟩ | ⟨x, a, b, c⟩)
    · exact ⟨i, .inl ⟨h, rfl⟩, .refl⟩
    · obtain ⟨k, h1, h2⟩ := (run_rep (e := e)).mp c
      exact ⟨k, .inr ⟨x, a, b, h1⟩, h2⟩
  · rintro ⟨k, ⟨h, rfl⟩ | ⟨x, a, b, c⟩, r⟩
    · rcases rtg_loc r with z | z
      · exact .inl ⟨h, z⟩
      · exact .inr z
    · exact .inr ⟨x, a, b, run_rep.mpr ⟨k, c, r⟩⟩
theorem loc_maybe {e : Prop} {f l : Nat → Prop} {Fo : Nat → Nat → Prop} {i j : Nat} : Loc row True f l Fo i j ↔ i = j ∨ Loc row e f l Fo i j := by
  constructor
  · rintro (⟨_, h⟩ | h)
    · exact .inl h
    · exact .inr (.inr h)
  · rintro (h | ⟨_, h⟩ | h)
    · exact .inl ⟨trivial, h⟩
    · exact .inl ⟨trivial, h⟩
    · exact .inr h
end

/-! ### the program's walk -/
structure Res where
  e : Bool
  f : List Nat
  l : List Nat
  F : List (List Nat)
def joined (a b : List Nat) : List Nat := a ++ b.filter fun x => decide (x ∉ a)
def link (F : List (List Nat)) (ls fs : List Nat) : List (List Nat) := ls.foldl (fun F l => F.set l (joined (F.getD l []) fs)) F
def walkM : Tr → List (List Nat) → Res
  | .pl _ _ _ _ => fun F => ⟨false, [F.length], [F.length], F ++ [[]]⟩
  | .ch a b => fun F => ⟨(walkM a F).e || (walkM b (walkM a F).F).e, joined (walkM a F).f (walkM b (walkM a F).F).f, joined (walkM a F).l (walkM b (walkM a F).F).l, (walkM b (walkM a F).F).F⟩
  | .sq a b => fun F => ⟨(walkM a F).e && (walkM b (walkM a F).F).e, if (walkM a F).e then joined (walkM a F).f (walkM b (walkM a F).F).f else (walkM a F).f,
      if (walkM b (walkM a F).F).e then joined (walkM a F).l (walkM b (walkM a F).F).l else (walkM b (walkM a F).F).l, link (walkM b (walkM a F).F).F (walkM a F).l (walkM b (walkM a F).F).f⟩
  | .an a => fun F => ⟨true, (walkM a F).f, (walkM a F).l, link (walkM a F).F (walkM a F).l (walkM a F).f⟩
  | .so a => fun F => ⟨(walkM a F).e, (walkM a F).f, (walkM a F).l, link (walkM a F).F (walkM a F).l (walkM a F).f⟩
  | .ma a => fun F => ⟨true, (walkM a F).f, (walkM a F).l, (walkM a F).F⟩
theorem mem_joined {a b : List Nat} {x : Nat} : x ∈ joined a b ↔ x ∈ a ∨ x ∈ b := by
  unfold joined
  rw [List.mem_append, List.mem_filter]
  constructor
  · rintro (h | h)
    · exact .inl h
    · exact .inr h.1
  · rintro (h | h)
    · exact .inl h
    · by_cases hx : x ∈ a
      · exact .inl hx
      · exact .inr ⟨h, decide_eq_true hx⟩
theorem nodup_joined {a b : List Nat} (ha : a.Nodup) (hb : b.Nodup) : (joined a b).Nodup :=
  List.nodup_append.mpr ⟨ha, hb.filter _, fun x hx y hy e => by
    subst e
    exact of_decide_eq_true (List.mem_filter.mp hy).2 hx⟩
theorem joined_nil (b : List Nat) : joined [] b = b := by simp [joined]
theorem getD_set {F : List (List Nat)} {l k : Nat} {v : List Nat} (h : l < F.length) : (F.set l v).getD k [] = if k = l then v else F.getD k [] := by
  rw [List.getD_eq_getElem?_getD, List.getD_eq_getElem?_getD]
  by_cases e : k = l
  · subst e
    rw [List.getElem?_set_self h, if_pos rfl]
    rfl
  · rw [List.getElem?_set_ne (Ne.symm e), if_neg e]
theorem link_length (fs : List Nat) : ∀ (ls : List Nat) (F : List (List Nat)), (link F ls fs).length = F.length
  | [], F => rfl
  | l :: ls, F => by
    show (link (F.set l (joined (F.getD l []) fs)) ls fs).length = _
    rw [link_length fs ls, List.length_set]
theorem link_mem {fs : List Nat} {k y : Nat} : ∀ (ls : List Nat) (F : List (List Nat)), (∀ x ∈ ls, x < F.length) → (y ∈ (link F ls fs).getD k [] ↔ y ∈ F.getD k [] ∨ (k ∈ ls ∧ y ∈ fs))
  | [], F, _ => by simp [link]
  | l :: ls, F, h => by
    have hl := h l List.mem_cons_self
    show y ∈ (link (F.set l (joined (F.getD l []) fs)) ls fs).getD k [] ↔ _
    rw [link_mem ls _ (fun x hx => by rw [List.length_set]; exact h x (List.mem_cons_of_mem _ hx)), getD_set hl]
    by_cases e : k = l
    · subst e
      rw [if_pos rfl, mem_joined]
      constructor
      · rintro ((h1 | h1) | h1)
        · exact .inl h1
        · exact .inr ⟨List.mem_cons_self, h1⟩
        · exact .inr ⟨List.mem_cons_self, h1.2⟩
      · rintro (h1 | h1)
        · exact .inl (.inl h1)
        · exact .inl (.inr h1.2)
    · rw [if_neg e]
      constructor
      · rintro (h1 | h1)
        · exact .inl h1
        · exact .inr ⟨List.mem_cons_of_mem _ h1.1, h1.2⟩
      · rintro (h1 | h1)
        · exact .inl h1
        · rcases List.mem_cons.mp h1.1 with z | z
          · exact absurd z e
          · exact .inr ⟨z, h1.2⟩
theorem link_out {fs : List Nat} {k : Nat} : ∀ (ls : List Nat) (F : List (List Nat)), (∀ x ∈ ls, x < F.length) → k ∉ ls → (link F ls fs).getD k [] = F.getD k []
  | [], F, _, _ => rfl
  | l :: ls, F, h, hk => by
    have hl := h l List.mem_cons_self
    show (link (F.set l (joined (F.getD l []) fs)) ls fs).getD k [] = _
    rw [link_out ls _ (fun x hx => by rw [List.length_set]; exact h x (List.mem_cons_of_mem _ hx)) fun z => hk (List.mem_cons_of_mem _ z), getD_set hl, if_neg (fun e : k = l => hk (by rw [e]; exact List.mem_cons_self))]
theorem link_nodup {fs : List Nat} {k : Nat} (hf : fs.Nodup) : ∀ (ls : List Nat) (F : List (List Nat)), (∀ x ∈ ls, x < F.length) → (F.getD k []).Nodup → ((link F ls fs).getD k []).Nodup
  | [], F, _, n => n
  | l :: ls, F, h, n => by
    have hl := h l List.mem_cons_self
    show ((link (F.set l (joined (F.getD l []) fs)) ls fs).getD k []).Nodup
    refine link_nodup hf ls _ (fun x hx => by rw [List.length_set]; exact h x (List.mem_cons_of_mem _ hx)) ?_
    rw [getD_set hl]
    by_cases e : k = l
    · subst e
      rw [if_pos rfl]
      exact nodup_joined n hf
    · rw [if_neg e]
      exact n
theorem getD_out {F : List (List Nat)} {k : Nat} (h : F.length ≤ k) : F.getD k [] = [] := by
  rw [List.getD_eq_getElem?_getD, List.getElem?_eq_none h]
  rfl

structure WalkOk (t : Tr) (F : List (List Nat)) (r : Res) : Prop where
  len : r.F.length = F.length + t.size
  old : ∀ k, k < F.length → r.F.getD k [] = F.getD k []
  fin : ∀ x ∈ r.f, F.length ≤ x ∧ x < r.F.length
  lin : ∀ x ∈ r.l, F.length ≤ x ∧ x < r.F.length
  fnd : r.f.Nodup
  lnd : r.l.Nodup
  new : ∀ k, F.length ≤ k → ∀ y ∈ r.F.getD k [], F.length ≤ y ∧ y < r.F.length
  nnd : ∀ k, F.length ≤ k → (r.F.getD k []).Nodup
  sem : Num t F.length → ∀ row i j, Rd row t i j ↔ Loc row (r.e = true) (· ∈ r.f) (· ∈ r.l) (fun x y => F.length ≤ x ∧ y ∈ r.F.getD x []) i j
theorem WalkOk.fol {t : Tr} {F : List (List Nat)} {r : Res} (h : WalkOk t F r) {x y : Nat} (q : F.length ≤ x ∧ y ∈ r.F.getD x []) : (F.length ≤ x ∧ x < r.F.length) ∧ F.length ≤ y ∧ y < r.F.length := by
  refine ⟨⟨q.1, ?_⟩, h.new x q.1 y q.2⟩
  refine Nat.lt_of_not_le fun hx => ?_
  have := q.2
  rw [getD_out hx] at this
  cases this
theorem loc_iff {row : List Nat} {e e' : Prop} {f f' l l' : Nat → Prop} {Fo Fo' : Nat → Nat → Prop} (h0 : e ↔ e') (hf : ∀ x, f x ↔ f' x) (h1 : ∀ x y, Fo x y ↔ Fo' x y) (h2 : ∀ x, l x ↔ l' x) {i j : Nat} : Loc row e f l Fo i j ↔ Loc row e' f' l' Fo' i j :=
  ⟨fun h => h.mono h0.mp (fun x => (hf x).mp) (fun x y => (h1 x y).mp) fun x => (h2 x).mp, fun h => h.mono h0.mpr (fun x => (hf x).mpr) (fun x y => (h1 x y).mpr) fun x => (h2 x).mpr⟩
theorem rtg_iff {R R' : Nat → Nat → Prop} (h : ∀ i j, R i j ↔ R' i j) {i j : Nat} : Rtg R i j ↔ Rtg R' i j := by
  constructor
  · intro r
    induction r with
    | refl => exact .refl
    | head a _ ih => exact .head ((h _ _).mp a) ih
  · intro r
    induction r with
    | refl => exact .refl
    | head a _ ih => exact .head ((h _ _).mpr a) ih
theorem walk_ok : ∀ (t : Tr) (F : List (List Nat)), WalkOk t F (walkM t F)
  | .pl p l m c, F => by
    have hD : ∀ k, F.length ≤ k → (F ++ [[]] : List (List Nat)).getD k [] = [] := fun k hk => by
      rw [List.getD_eq_getElem?_getD, List.getElem?_append_right hk]
      cases h : k - F.length with
      | zero => rfl
      | succ n => rfl
    refine ⟨by simp [walkM, Tr.size], fun k hk => ?_, fun x hx => ?_, fun x hx => ?_, by simp [walkM], by simp [walkM], fun k hk y hy => ?_, fun k hk => ?_, fun hn row i j => ?_⟩
    · show (F ++ [[]] : List (List Nat)).getD k [] = F.getD k []
      rw [List.getD_eq_getElem?_getD, List.getElem?_append_left hk, ← List.getD_eq_getElem?_getD]
    · have e : x = F.length := by simpa [walkM] using hx
      subst e
      simp [walkM]
    · have e : x = F.length := by simpa [walkM] using hx
      subst e
      simp [walkM]
    · have hy' : y ∈ (F ++ [[]] : List (List Nat)).getD k [] := hy
      rw [hD k hk] at hy'
      cases hy'
    · show ((F ++ [[]] : List (List Nat)).getD k []).Nodup
      rw [hD k hk]
      exact List.nodup_nil
    · have hc : c = F.length := hn
      subst hc
      show (row[i]? = some F.length ∧ j = i + 1) ↔ Loc row (false = true) (· ∈ [F.length]) (· ∈ [F.length]) (fun x y => F.length ≤ x ∧ y ∈ (F ++ [[]] : List (List Nat)).getD x []) i j
      constructor
      · rintro ⟨h1, rfl⟩
        exact .inr ⟨F.length, h1, List.mem_singleton.mpr rfl, .done (List.mem_singleton.mpr rfl)⟩
      · rintro (⟨h, _⟩ | ⟨x, h1, h2, h3⟩)
        · cases h
        · have e : x = F.length := List.mem_singleton.mp h2
          subst e
          cases h3 with
          | done _ => exact ⟨h1, rfl⟩
          | step _ b _ =>
            rw [hD _ b.1] at b
            cases b.2
  | .ch a b, F => by
    have ha := walk_ok a F
    have hb := walk_ok b (walkM a F).F
    have la := ha.len
    have lb := hb.len
    refine ⟨?_, fun k hk => ?_, fun x hx => ?_, fun x hx => ?_, nodup_joined ha.fnd hb.fnd, nodup_joined ha.lnd hb.lnd, fun k hk y hy => ?_, fun k hk => ?_, fun hn row i j => ?_⟩
    · show (walkM b (walkM a F).F).F.length = F.length + (a.size + b.size)
      omega
    · show (walkM b (walkM a F).F).F.getD k [] = _
      rw [hb.old k (by omega), ha.old k hk]
    · show _ ∧ x < (walkM b (walkM a F).F).F.length
      rcases mem_joined.mp hx with h | h
      · have := ha.fin x h; omega
      · have := hb.fin x h; omega
    · show _ ∧ x < (walkM b (walkM a F).F).F.length
      rcases mem_joined.mp hx with h | h
      · have := ha.lin x h; omega
      · have := hb.lin x h; omega
    · have hy : y ∈ (walkM b (walkM a F).F).F.getD k [] := hy
      show _ ∧ y < (walkM b (walkM a F).F).F.length
      by_cases hk' : k < (walkM a F).F.length
      · rw [hb.old k hk'] at hy
        have := ha.new k hk y hy
        omega
      · have := hb.new k (by omega) y hy
        omega
    · show ((walkM b (walkM a F).F).F.getD k []).Nodup
      by_cases hk' : k < (walkM a F).F.length
      · rw [hb.old k hk']
        exact ha.nnd k hk
      · exact hb.nnd k (by omega)
    · have sa := ha.sem hn.1 row
      have sb := hb.sem (by rw [la]; exact hn.2) row
      show (Rd row a i j ∨ Rd row b i j) ↔ _
      rw [sa, sb, ← loc_choice (Da := fun x => F.length ≤ x ∧ x < (walkM a F).F.length) (Db := fun x => (walkM a F).F.length ≤ x ∧ x < (walkM b (walkM a F).F).F.length) (fun x h1 h2 => by omega)
        ha.fin ha.lin (fun x y => ha.fol) hb.fin hb.lin (fun x y => hb.fol)]
      refine loc_iff (by simp [walkM]) (fun x => by simp [walkM, mem_joined]) (fun x y => ?_) (fun x => by simp [walkM, mem_joined])
      show _ ↔ F.length ≤ x ∧ y ∈ (walkM b (walkM a F).F).F.getD x []
      constructor
      · rintro (h | h)
        · have h' := (ha.fol h).1.2
          exact ⟨h.1, by rw [hb.old x h']; exact h.2⟩
        · exact ⟨by have := h.1; omega, h.2⟩
      · rintro ⟨h1, h2⟩
        by_cases hx : x < (walkM a F).F.length
        · rw [hb.old x hx] at h2
          exact .inl ⟨h1, h2⟩
        · exact .inr ⟨by omega, h2⟩
  | .sq a b, F => by
    have ha := walk_ok a F
    have hb := walk_ok b (walkM a F).F
    have la := ha.len
    have lb := hb.len
    have hll : ∀ x ∈ (walkM a F).l, x < (walkM b (walkM a F).F).F.length := fun x hx => by have := ha.lin x hx; omega
    have lk : (link (walkM b (walkM a F).F).F (walkM a F).l (walkM b (walkM a F).F).f).length = (walkM b (walkM a F).F).F.length := link_length _ _ _
    refine ⟨?_, fun k hk => ?_, fun x hx => ?_, fun x hx => ?_, ?_, ?_, fun k hk y hy => ?_, fun k hk => ?_, fun hn row i j => ?_⟩
    · show (link (walkM b (walkM a F).F).F (walkM a F).l (walkM b (walkM a F).F).f).length = F.length + (a.size + b.size)
      omega
    · show (link (walkM b (walkM a F).F).F (walkM a F).l (walkM b (walkM a F).F).f).getD k [] = _
      rw [link_out _ _ hll (fun z => by have := ha.lin k z; omega), hb.old k (by omega), ha.old k hk]
    · have hx : x ∈ (if (walkM a F).e then joined (walkM a F).f (walkM b (walkM a F).F).f else (walkM a F).f) := hx
      show _ ∧ x < (link (walkM b (walkM a F).F).F (walkM a F).l (walkM b (walkM a F).F).f).length
      rw [lk]
      have h : x ∈ (walkM a F).f ∨ x ∈ (walkM b (walkM a F).F).f := by
        split at hx
        · exact mem_joined.mp hx
        · exact .inl hx
      rcases h with h | h
      · have := ha.fin x h; omega
      · have := hb.fin x h; omega
    · have hx : x ∈ (if (walkM b (walkM a F).F).e then joined (walkM a F).l (walkM b (walkM a F).F).l else (walkM b (walkM a F).F).l) := hx
      show _ ∧ x < (link (walkM b (walkM a F).F).F (walkM a F).l (walkM b (walkM a F).F).f).length
      rw [lk]
      have h : x ∈ (walkM a F).l ∨ x ∈ (walkM b (walkM a F).F).l := by
        split at hx
        · exact mem_joined.mp hx
        · exact .inr hx
      rcases h with h | h
      · have := ha.lin x h; omega
      · have := hb.lin x h; omega
    · show (if (walkM a F).e then joined (walkM a F).f (walkM b (walkM a F).F).f else (walkM a F).f).Nodup
      split
      · exact nodup_joined ha.fnd hb.fnd
      · exact ha.fnd
    · show (if (walkM b (walkM a F).F).e then joined (walkM a F).l (walkM b (walkM a F).F).l else (walkM b (walkM a F).F).l).Nodup
      split
      · exact nodup_joined ha.lnd hb.lnd
      · exact hb.lnd
    · have hy : y ∈ (link (walkM b (walkM a F).F).F (walkM a F).l (walkM b (walkM a F).F).f).getD k [] := hy
      show _ ∧ y < (link (walkM b (walkM a F).F).F (walkM a F).l (walkM b (walkM a F).F).f).length
      rw [lk]
      rcases (link_mem _ _ hll).mp hy with hy | ⟨_, hy⟩
      · by_cases hk' : k < (walkM a F).F.length
        · rw [hb.old k hk'] at hy
          have := ha.new k hk y hy
          omega
        · have := hb.new k (by omega) y hy
          omega
      · have := hb.fin y hy
        omega
    · show ((link (walkM b (walkM a F).F).F (walkM a F).l (walkM b (walkM a F).F).f).getD k []).Nodup
      refine link_nodup hb.fnd _ _ hll ?_
      by_cases hk' : k < (walkM a F).F.length
      · rw [hb.old k hk']
        exact ha.nnd k hk
      · exact hb.nnd k (by omega)
    · have sa := ha.sem hn.1 row
      have sb := hb.sem (by rw [la]; exact hn.2) row
      have e0 : Rd row (.sq a b) i j ↔ ∃ k, Loc row ((walkM a F).e = true) (· ∈ (walkM a F).f) (· ∈ (walkM a F).l) (fun x y => F.length ≤ x ∧ y ∈ (walkM a F).F.getD x []) i k ∧
          Loc row ((walkM b (walkM a F).F).e = true) (· ∈ (walkM b (walkM a F).F).f) (· ∈ (walkM b (walkM a F).F).l) (fun x y => (walkM a F).F.length ≤ x ∧ y ∈ (walkM b (walkM a F).F).F.getD x []) k j := by
        show (∃ k, Rd row a i k ∧ Rd row b k j) ↔ _
        constructor
        · rintro ⟨k, h1, h2⟩
          exact ⟨k, (sa _ _).mp h1, (sb _ _).mp h2⟩
        · rintro ⟨k, h1, h2⟩
          exact ⟨k, (sa _ _).mpr h1, (sb _ _).mpr h2⟩
      rw [e0, ← loc_seq (Da := fun x => F.length ≤ x ∧ x < (walkM a F).F.length) (Db := fun x => (walkM a F).F.length ≤ x ∧ x < (walkM b (walkM a F).F).F.length) (fun x h1 h2 => by omega)
        ha.fin ha.lin (fun x y => ha.fol) hb.fin hb.lin (fun x y => hb.fol)]
      refine loc_iff (by simp [walkM]) (fun x => ?_) (fun x y => ?_) (fun x => ?_)
      · show _ ↔ x ∈ (if (walkM a F).e then joined (walkM a F).f (walkM b (walkM a F).F).f else (walkM a F).f)
        cases h : (walkM a F).e
        · simp
        · simp [mem_joined]
      · show _ ↔ F.length ≤ x ∧ y ∈ (link (walkM b (walkM a F).F).F (walkM a F).l (walkM b (walkM a F).F).f).getD x []
        rw [link_mem _ _ hll]
        constructor
        · rintro (h | h | h)
          · have h' := (ha.fol h).1.2
            exact ⟨h.1, .inl (by rw [hb.old x h']; exact h.2)⟩
          · exact ⟨by have := h.1; omega, .inl h.2⟩
          · exact ⟨(ha.lin x h.1).1, .inr h⟩
        · rintro ⟨h1, h2 | h2⟩
          · by_cases hx : x < (walkM a F).F.length
            · rw [hb.old x hx] at h2
              exact .inl ⟨h1, h2⟩
            · exact .inr (.inl ⟨by omega, h2⟩)
          · exact .inr (.inr h2)
      · show _ ↔ x ∈ (if (walkM b (walkM a F).F).e then joined (walkM a F).l (walkM b (walkM a F).F).l else (walkM b (walkM a F).F).l)
        cases h : (walkM b (walkM a F).F).e
        · simp
        · simp [mem_joined, or_comm]
  | .an a, F => by
    have ha := walk_ok a F
    have hll : ∀ x ∈ (walkM a F).l, x < (walkM a F).F.length := fun x hx => (ha.lin x hx).2
    have lk : (link (walkM a F).F (walkM a F).l (walkM a F).f).length = (walkM a F).F.length := link_length _ _ _
    refine ⟨?_, fun k hk => ?_, fun x hx => ?_, fun x hx => ?_, ha.fnd, ha.lnd, fun k hk y hy => ?_, fun k hk => ?_, fun hn row i j => ?_⟩
    · show (link (walkM a F).F (walkM a F).l (walkM a F).f).length = F.length + a.size
      rw [lk, ha.len]
    · show (link (walkM a F).F (walkM a F).l (walkM a F).f).getD k [] = _
      rw [link_out _ _ hll (fun z => by have := ha.lin k z; omega), ha.old k hk]
    · show _ ∧ x < (link (walkM a F).F (walkM a F).l (walkM a F).f).length
      rw [lk]; exact ha.fin x hx
    · show _ ∧ x < (link (walkM a F).F (walkM a F).l (walkM a F).f).length
      rw [lk]; exact ha.lin x hx
    · have hy : y ∈ (link (walkM a F).F (walkM a F).l (walkM a F).f).getD k [] := hy
      show _ ∧ y < (link (walkM a F).F (walkM a F).l (walkM a F).f).length
      rw [lk]
      rcases (link_mem _ _ hll).mp hy with hy | ⟨_, hy⟩
      · exact ha.new k hk y hy
      · exact ha.fin y hy
    · exact link_nodup ha.fnd _ _ hll (ha.nnd k hk)
    · have sa := ha.sem hn row
      show Rtg (Rd row a) i j ↔ _
      rw [rtg_iff sa, ← loc_any]
      refine loc_iff (by simp [walkM]) (fun x => Iff.rfl) (fun x y => ?_) (fun x => Iff.rfl)
      show _ ↔ F.length ≤ x ∧ y ∈ (link (walkM a F).F (walkM a F).l (walkM a F).f).getD x []
      rw [link_mem _ _ hll]
      constructor
      · rintro (h | h)
        · exact ⟨h.1, .inl h.2⟩
        · exact ⟨(ha.lin x h.1).1, .inr h⟩
      · rintro ⟨h1, h2 | h2⟩
        · exact .inl ⟨h1, h2⟩
        · exact .inr h2
  | .so a, F => by
    have ha := walk_ok a F
    have hll : ∀ x ∈ (walkM a F).l, x < (walkM a F).F.length := fun x hx => (ha.lin x hx).2
    have lk : (link (walkM a F).F (walkM a F).l (walkM a F).f).length = (walkM a F).F.length := link_length _ _ _
    refine ⟨?_, fun k hk => ?_, fun x hx => ?_, fun x hx => ?_, ha.fnd, ha.lnd, fun k hk y hy => ?_, fun k hk => ?_, fun hn row i j => ?_⟩
    · show (link (walkM a F).F (walkM a F).l (walkM a F).f).length = F.length + a.size
      rw [lk, ha.len]
    · show (link (walkM a F).F (walkM a F).l (walkM a F).f).getD k [] = _
      rw [link_out _ _ hll (fun z => by have := ha.lin k z; omega), ha.old k hk]
    · show _ ∧ x < (link (walkM a F).F (walkM a F).l (walkM a F).f).length
      rw [lk]; exact ha.fin x hx
    · show _ ∧ x < (link (walkM a F).F (walkM a F).l (walkM a F).f).length
      rw [lk]; exact ha.lin x hx
    · have hy : y ∈ (link (walkM a F).F (walkM a F).l (walkM a F).f).getD k [] := hy
      show _ ∧ y < (link (walkM a F).F (walkM a F).l (walkM a F).f).length
      rw [lk]
      rcases (link_mem _ _ hll).mp hy with hy | ⟨_, hy⟩
      · exact ha.new k hk y hy
      · exact ha.fin y hy
    · exact link_nodup ha.fnd _ _ hll (ha.nnd k hk)
    · have sa := ha.sem hn row
      have e0 : Rd row (.so a) i j ↔ ∃ k, Loc row ((walkM a F).e = true) (· ∈ (walkM a F).f) (· ∈ (walkM a F).l) (fun x y => F.length ≤ x ∧ y ∈ (walkM a F).F.getD x []) i k ∧
          Rtg (Loc row ((walkM a F).e = true) (· ∈ (walkM a F).f) (· ∈ (walkM a F).l) (fun x y => F.length ≤ x ∧ y ∈ (walkM a F).F.getD x [])) k j := by
        show (∃ k, Rd row a i k ∧ Rtg (Rd row a) k j) ↔ _
        constructor
        · rintro ⟨k, h1, h2⟩
          exact ⟨k, (sa _ _).mp h1, (rtg_iff sa).mp h2⟩
        · rintro ⟨k, h1, h2⟩
          exact ⟨k, (sa _ _).mpr h1, (rtg_iff sa).mpr h2⟩
      rw [e0, ← loc_some]
      refine loc_iff Iff.rfl (fun x => Iff.rfl) (fun x y => ?_) (fun x => Iff.rfl)
      show _ ↔ F.length ≤ x ∧ y ∈ (link (walkM a F).F (walkM a F).l (walkM a F).f).getD x []
      rw [link_mem _ _ hll]
      constructor
      · rintro (h | h)
        · exact ⟨h.1, .inl h.2⟩
        · exact ⟨(ha.lin x h.1).1, .inr h⟩
      · rintro ⟨h1, h2 | h2⟩
        · exact .inl ⟨h1, h2⟩
        · exact .inr h2
  | .ma a, F => by
    have ha := walk_ok a F
    refine ⟨ha.len, ha.old, ha.fin, ha.lin, ha.fnd, ha.lnd, ha.new, ha.nnd, fun hn row i j => ?_⟩
    have sa := ha.sem hn row
    show (i = j ∨ Rd row a i j) ↔ _
    rw [sa, ← loc_maybe]
    exact loc_iff (by simp [walkM]) (fun x => Iff.rfl) (fun x y => Iff.rfl) (fun x => Iff.rfl)

/-! ### the machine -/
abbrev Key := Bool × List Nat
/-- whether the strip can end behind the k-th place (0: at the beginning) -/
def endB (r : Res) (k : Nat) : Bool := if k = 0 then r.e else decide (k ∈ r.l)
/-- the followers with those of the beginning -/
def folM (t : Tr) : List (List Nat) := link (walkM t [[]]).F [0] (walkM t [[]]).f
theorem fol_length (t : Tr) : (folM t).length = t.size + 1 := by
  unfold folM
  rw [link_length, (walk_ok t [[]]).len]
  show 1 + t.size = t.size + 1
  omega
theorem mem_fol {t : Tr} {x y : Nat} : y ∈ (folM t).getD x [] ↔ (x = 0 ∧ y ∈ (walkM t [[]]).f) ∨ (1 ≤ x ∧ y ∈ (walkM t [[]]).F.getD x []) := by
  have h := walk_ok t [[]]
  have h0 : ∀ x ∈ [0], x < (walkM t [[]]).F.length := fun x hx => by
    have e : x = 0 := List.mem_singleton.mp hx
    rw [h.len, e]
    show 0 < 1 + t.size
    omega
  unfold folM
  rw [link_mem _ _ h0]
  by_cases hx : x = 0
  · subst hx
    rw [h.old 0 (by show 0 < 1; omega)]
    simp
  · simp [hx]
    omega
theorem fol_lt {t : Tr} {x y : Nat} (h : y ∈ (folM t).getD x []) : 1 ≤ y ∧ y < t.size + 1 := by
  have w := walk_ok t [[]]
  have l := w.len
  have l' : ([[]] : List (List Nat)).length = 1 := rfl
  rcases mem_fol.mp h with ⟨_, h⟩ | ⟨h1, h⟩
  · have := w.fin y h; omega
  · have := w.new x (by omega) y h; omega
theorem fol_nodup {t : Tr} (k : Nat) : ((folM t).getD k []).Nodup := by
  have h := walk_ok t [[]]
  have h0 : ∀ x ∈ [0], x < (walkM t [[]]).F.length := fun x hx => by
    have e : x = 0 := List.mem_singleton.mp hx
    rw [h.len, e]
    show 0 < 1 + t.size
    omega
  refine link_nodup h.fnd _ _ h0 ?_
  cases k with
  | zero =>
    rw [h.old 0 (by show 0 < 1; omega)]
    exact List.nodup_nil
  | succ k => exact h.nnd _ (by show 1 ≤ k + 1; omega)
theorem full {t : Tr} (hn : Num t 1) (row : List Nat) (j : Nat) : Rd row t 0 j ↔ Run row (fun x y => y ∈ (folM t).getD x []) (fun x => endB (walkM t [[]]) x = true) 0 0 j := by
  have h := walk_ok t [[]]
  rw [h.sem hn]
  constructor
  · rintro (⟨a, e⟩ | ⟨x, a, b, c⟩)
    · subst e
      exact .done a
    · refine .step a (mem_fol.mpr (.inl ⟨rfl, b⟩)) (c.keep (D := fun x => 1 ≤ x) (fun x y d q => ?_) (fun x d q => ?_) (h.fin x b).1)
      · exact ⟨(h.new x d y q.2).1, mem_fol.mpr (.inr ⟨d, q.2⟩)⟩
      · show (if x = 0 then _ else decide (x ∈ _)) = true
        rw [if_neg (by omega)]
        exact decide_eq_true q
  · intro r
    cases r with
    | done q => exact .inl ⟨q, rfl⟩
    | @step _ y _ _ a b c =>
      have hy : y ∈ (walkM t [[]]).f := by
        rcases mem_fol.mp b with ⟨_, z⟩ | ⟨z, _⟩
        · exact z
        · omega
      refine .inr ⟨y, a, hy, c.keep (D := fun x => 1 ≤ x) (fun x y d q => ?_) (fun x d q => ?_) (h.fin y hy).1⟩
      · rcases mem_fol.mp q with ⟨z, _⟩ | ⟨_, z⟩
        · omega
        · exact ⟨(h.new x d y z).1, d, z⟩
      · have q : (if x = 0 then (walkM t [[]]).e else decide (x ∈ (walkM t [[]]).l)) = true := q
        rw [if_neg (by omega)] at q
        exact of_decide_eq_true q
/-- the keys of the places: the k-th has the end of k, and the followers of k in some order -/
def KeyAt (t : Tr) (k : Nat) (q : Key) : Prop := q.1 = endB (walkM t [[]]) k ∧ q.2.Perm ((folM t).getD k [])
def KeysOk (t : Tr) (keys : List Key) : Prop := keys.length = t.size + 1 ∧ ∀ (k : Nat) (q : Key), keys[k]? = some q → KeyAt t k q
abbrev Mv := Nat × Nat × Pl
def moveM (t : Tr) (keys : List Key) (s n : Nat) : Mv := (s, (once keys).idxOf (keys.getD n (false, [])), t.leaves.getD (n - 1) (0, 0, 0, 0))
def movesM (t : Tr) (keys : List Key) : List Mv := (List.range (once keys).length).flatMap fun s => ((once keys).getD s (false, [])).2.map (moveM t keys s)
def endsM (keys : List Key) : List Bool := (once keys).map (·.1)
def stepM (moves : List Mv) (ss : List Nat) (c : Nat) : List Nat := once ((moves.filter fun m => decide (m.1 ∈ ss) && decide (m.2.2.2.2.2 = c)).map (·.2.1))
def ledM (ends : List Bool) (moves : List Mv) (row : List Nat) : Bool := (row.foldl (stepM moves) [0]).any fun s => ends.getD s false
section
variable {t : Tr} {keys : List Key}
theorem KeysOk.get (K : KeysOk t keys) {k : Nat} (h : k < t.size + 1) : keys[k]? = some (keys.getD k (false, [])) ∧ KeyAt t k (keys.getD k (false, [])) := by
  have h' : k < keys.length := by rw [K.1]; exact h
  have e : keys[k]? = some (keys.getD k (false, [])) := by
    rw [List.getD_eq_getElem?_getD, List.getElem?_eq_getElem h']
    rfl
  exact ⟨e, K.2 _ _ e⟩
theorem key_mem {k : Nat} {q : Key} (h : keys[k]? = some q) : q ∈ once keys := mem_once.mpr (List.mem_of_getElem? h)
theorem cls_get {q : Key} (h : q ∈ once keys) : (once keys).getD ((once keys).idxOf q) (false, []) = q ∧ (once keys).idxOf q < (once keys).length := by
  have hl : (once keys).idxOf q < (once keys).length := List.idxOf_lt_length_of_mem h
  refine ⟨?_, hl⟩
  rw [List.getD_eq_getElem?_getD, List.getElem?_eq_getElem hl]
  exact List.getElem_idxOf hl
theorem mem_moves {m : Mv} : m ∈ movesM t keys ↔ ∃ s, s < (once keys).length ∧ ∃ n ∈ ((once keys).getD s (false, [])).2, m = moveM t keys s n := by
  unfold movesM
  rw [List.mem_flatMap]
  constructor
  · rintro ⟨s, h1, h2⟩
    obtain ⟨n, h3, h4⟩ := List.mem_map.mp h2
    exact ⟨s, List.mem_range.mp h1, n, h3, h4.symm⟩
  · rintro ⟨s, h1, n, h3, h4⟩
    exact ⟨s, List.mem_range.mpr h1, List.mem_map.mpr ⟨n, h3, h4.symm⟩⟩
/-- every state is that of some place -/
theorem state_of (K : KeysOk t keys) {s : Nat} (h : s < (once keys).length) : ∃ k, k < t.size + 1 ∧ keys[k]? = some ((once keys).getD s (false, [])) ∧ KeyAt t k ((once keys).getD s (false, [])) := by
  have e : (once keys).getD s (false, []) ∈ once keys := by
    rw [List.getD_eq_getElem?_getD, List.getElem?_eq_getElem h]
    exact List.getElem_mem h
  obtain ⟨k, hk, e2⟩ := List.mem_iff_getElem.mp (mem_once.mp e)
  have e3 : keys[k]? = some ((once keys).getD s (false, [])) := by rw [List.getElem?_eq_getElem hk, e2]
  exact ⟨k, by rw [← K.1]; exact hk, e3, K.2 _ _ e3⟩
theorem num_of_state (K : KeysOk t keys) {s n : Nat} (h : s < (once keys).length) (hn : n ∈ ((once keys).getD s (false, [])).2) : 1 ≤ n ∧ n < t.size + 1 := by
  obtain ⟨k, hk, _, _, p⟩ := state_of K h
  exact fol_lt (p.mem_iff.mp hn)
theorem leaf_get (h1 : 1 ≤ n) (h2 : n < t.size + 1) : t.leaves[n - 1]? = some (t.leaves.getD (n - 1) (0, 0, 0, 0)) := by
  have h : n - 1 < t.leaves.length := by rw [leaves_length]; omega
  rw [List.getD_eq_getElem?_getD, List.getElem?_eq_getElem h]
  rfl
/-- what the law asks of each move -/
theorem move_fits (K : KeysOk t keys) {m : Mv} (h : m ∈ movesM t keys) : m.1 < (endsM keys).length ∧ m.2.1 < (endsM keys).length ∧ m.2.2 ∈ t.leaves := by
  obtain ⟨s, hs, n, hn, rfl⟩ := mem_moves.mp h
  obtain ⟨n1, n2⟩ := num_of_state K hs hn
  have hl : (endsM keys).length = (once keys).length := List.length_map _
  rw [hl]
  exact ⟨hs, (cls_get (key_mem (K.get n2).1)).2, List.mem_of_getElem? (leaf_get n1 n2)⟩
theorem led_aux (K : KeysOk t keys) (hn : Num t 1) {row : List Nat} : ∀ (suf pre ss : List Nat) (P : Nat → Prop), row = pre ++ suf → (∀ x, P x → x < t.size + 1) →
    (∀ s, s ∈ ss ↔ ∃ x, P x ∧ (once keys).idxOf (keys.getD x (false, [])) = s) →
    (((suf.foldl (stepM (movesM t keys)) ss).any fun s => (endsM keys).getD s false) = true ↔ ∃ x, P x ∧ Run row (fun x y => y ∈ (folM t).getD x []) (fun x => endB (walkM t [[]]) x = true) x pre.length row.length)
  | [], pre, ss, P, hr, hP, hs => by
    have hend : ∀ x, P x → (endsM keys).getD ((once keys).idxOf (keys.getD x (false, []))) false = endB (walkM t [[]]) x := fun x px => by
      obtain ⟨h1, h2, _⟩ := K.get (hP x px)
      obtain ⟨h3, h4⟩ := cls_get (key_mem h1)
      rw [← h2]
      unfold endsM
      rw [List.getD_eq_getElem?_getD, List.getElem?_map, List.getElem?_eq_getElem h4]
      rw [List.getD_eq_getElem?_getD, List.getElem?_eq_getElem h4] at h3
      exact congrArg (fun q : Key => q.1) h3
    have hl : row.length = pre.length := by rw [hr]; simp
    rw [List.foldl_nil, List.any_eq_true]
    constructor
    · rintro ⟨s, h1, h2⟩
      obtain ⟨x, px, rfl⟩ := (hs s).mp h1
      rw [hend x px] at h2
      refine ⟨x, px, ?_⟩
      rw [hl]
      exact .done h2
    · rintro ⟨x, px, r⟩
      refine ⟨_, (hs _).mpr ⟨x, px, rfl⟩, ?_⟩
      rw [hend x px]
      generalize hj : row.length = j at r
      cases r with
      | done q => exact q
      | step a _ _ =>
        have := (List.getElem?_eq_some_iff.mp a).1
        omega
  | c :: suf, pre, ss, P, hr, hP, hs => by
    have hc : row[pre.length]? = some c := by rw [hr, List.getElem?_append_right (Nat.le_refl _)]; simp
    rw [List.foldl_cons, led_aux (row := row) K hn suf (pre ++ [c]) _ (fun y => y = c ∧ ∃ x, P x ∧ y ∈ (folM t).getD x []) (by rw [hr]; simp) (fun y ⟨_, x, _, h⟩ => (fol_lt h).2) ?_]
    · rw [List.length_append, List.length_singleton]
      constructor
      · rintro ⟨y, ⟨rfl, x, px, h⟩, r⟩
        exact ⟨x, px, .step hc h r⟩
      · rintro ⟨x, px, r⟩
        generalize hj : row.length = j at r
        cases r with
        | done _ =>
          have := (List.getElem?_eq_some_iff.mp hc).1
          omega
        | @step _ y _ _ a b r =>
          have e : y = c := by
            rw [a] at hc
            exact Option.some.inj hc
          subst e
          exact ⟨y, ⟨rfl, x, px, b⟩, r⟩
    · intro s'
      unfold stepM
      rw [mem_once, List.mem_map]
      constructor
      · rintro ⟨m, hm, rfl⟩
        obtain ⟨hm, hq⟩ := List.mem_filter.mp hm
        obtain ⟨q1, q2⟩ := Bool.and_eq_true_iff.mp hq
        have q1 := of_decide_eq_true q1
        have q2 := of_decide_eq_true q2
        obtain ⟨s, h1, n, h2, rfl⟩ := mem_moves.mp hm
        obtain ⟨n1, n2⟩ := num_of_state K h1 h2
        obtain ⟨x, px, e⟩ := (hs s).mp q1
        have e2 : (once keys).getD s (false, []) = keys.getD x (false, []) := by
          rw [← e]
          exact (cls_get (key_mem (K.get (hP x px)).1)).1
        rw [e2] at h2
        have e3 := num_leaf t 1 hn (n - 1) _ (leaf_get n1 n2)
        have e4 : n = c := by
          have q2 : (t.leaves.getD (n - 1) (0, 0, 0, 0)).2.2.2 = c := q2
          omega
        exact ⟨n, ⟨e4, x, px, (K.get (hP x px)).2.2.mem_iff.mp h2⟩, rfl⟩
      · rintro ⟨y, ⟨rfl, x, px, h⟩, rfl⟩
        obtain ⟨y1, y2⟩ := fol_lt h
        obtain ⟨k1, k2, k3⟩ := K.get (hP x px)
        obtain ⟨c1, c2⟩ := cls_get (key_mem k1)
        have e3 := num_leaf t 1 hn (y - 1) _ (leaf_get y1 y2)
        refine ⟨moveM t keys ((once keys).idxOf (keys.getD x (false, []))) y, List.mem_filter.mpr ⟨mem_moves.mpr ⟨_, c2, y, ?_, rfl⟩, Bool.and_eq_true_iff.mpr ⟨decide_eq_true ((hs _).mpr ⟨x, px, rfl⟩), decide_eq_true ?_⟩⟩, rfl⟩
        · rw [c1]
          exact k3.mem_iff.mpr h
        · show (t.leaves.getD (y - 1) (0, 0, 0, 0)).2.2.2 = y
          omega
theorem head_zero (K : KeysOk t keys) : (once keys).idxOf (keys.getD 0 (false, [])) = 0 := by
  cases hk : keys with
  | nil =>
    have := K.1
    rw [hk] at this
    simp at this
  | cons q r =>
    have h := once_head (x := q) (xs := r)
    show (once (q :: r)).idxOf q = 0
    cases ho : once (q :: r) with
    | nil => rw [ho] at h; cases h
    | cons z w =>
      rw [ho] at h
      have e : z = q := Option.some.inj h
      subst e
      exact List.idxOf_cons_self
/-- THE LAW -/
theorem led_is_beh (K : KeysOk t keys) (hn : Num t 1) (row : List Nat) : ledM (endsM keys) (movesM t keys) row = decide (row.length ∈ behM row t [0]) := by
  have h1 : ledM (endsM keys) (movesM t keys) row = true ↔ Rd row t 0 row.length := by
    unfold ledM
    rw [led_aux K hn row [] [0] (fun x => x = 0) rfl (fun x e => by rw [e]; omega) ?_, full hn]
    · constructor
      · rintro ⟨x, rfl, r⟩
        exact r
      · intro r
        exact ⟨0, rfl, r⟩
    · intro s
      rw [List.mem_singleton]
      constructor
      · rintro rfl
        exact ⟨0, rfl, head_zero K⟩
      · rintro ⟨x, rfl, e⟩
        rw [← e]
        exact head_zero K
  have h2 : row.length ∈ behM row t [0] ↔ Rd row t 0 row.length := by
    rw [mem_beh t [0] (fun i hi => by rw [List.mem_singleton.mp hi]; exact Nat.zero_le _)]
    constructor
    · rintro ⟨i, hi, r⟩
      rw [List.mem_singleton.mp hi] at r
      exact r
    · intro r
      exact ⟨0, List.mem_singleton.mpr rfl, r⟩
  rw [Bool.eq_iff_iff, h1, ← h2]
  simp
end
end Gk
/-! ### the text by places, the heap's words -/
namespace Gk
open PySem L2
def top (i : Nat) : Stmt := PySem.Challenge.pw_surelyread_k08_machines_take.main.body.getD i (.Pass ⟨0, 0, 0, 0⟩)
abbrev sJoined : Stmt := top 1
abbrev sInit : Stmt := inClass (top 2) 0
abbrev sAdd : Stmt := inClass (top 2) 1
abbrev sLink : Stmt := inClass (top 2) 2
abbrev sWPl : Stmt := top 3
abbrev sWSq : Stmt := top 4
abbrev sWCh : Stmt := top 5
abbrev sWRe : Stmt := top 6
abbrev sWMa : Stmt := top 7
abbrev sWalk : Stmt := top 9
abbrev sMachine : Stmt := top 10
abbrev sCell : Stmt := top 13
abbrev sDigits : Stmt := top 17
abbrev sDraw : Stmt := top 18
abbrev sTree : Stmt := top 19
abbrev sPlaces : Stmt := top 20
abbrev sBehind : Stmt := top 21
abbrev sOnce : Stmt := top 22
abbrev sLed : Stmt := top 23
abbrev sRows : Stmt := top 24
abbrev sLaw : Stmt := top 25

/-- a list of numbers from 0 as values -/
def natL (ns : List Nat) : List V := ns.map fun n : Nat => V.int (n : Int)
theorem natL_length (ns : List Nat) : (natL ns).length = ns.length := List.length_map _
theorem natL_get {ns : List Nat} {i : Nat} {x : V} (h : (natL ns)[i]? = some x) : ∃ n, ns[i]? = some n ∧ x = .int (n : Int) := by
  unfold natL at h
  rw [List.getElem?_map] at h
  cases e : ns[i]? with
  | none => rw [e] at h; cases h
  | some n => rw [e] at h; exact ⟨n, rfl, (Option.some.inj h).symm⟩
theorem natL_at {ns : List Nat} {i n : Nat} (h : ns[i]? = some n) : (natL ns)[i]? = some (.int (n : Int)) := by
  unfold natL
  rw [List.getElem?_map, h]
  rfl
theorem natL_app (a b : List Nat) : natL (a ++ b) = natL a ++ natL b := List.map_append
theorem natL_flat (ns : List Nat) : (natL ns).all flatV = true := by
  unfold natL
  rw [List.all_map, List.all_eq_true]
  intro x _
  rfl
theorem inV_nat (n : Nat) : ∀ ns : List Nat, inV (.int (n : Int)) (natL ns) = decide (n ∈ ns)
  | [] => rfl
  | m :: ns => by
    have ih := inV_nat n ns
    show (eqV (.int (m : Int)) (.int (n : Int)) || inV (.int (n : Int)) (natL ns)) = _
    rw [ih]
    by_cases h : m = n
    · subst h
      have : eqV (.int (m : Int)) (.int (m : Int)) = true := by simp [eqV]
      rw [this]
      simp
    · have : eqV (.int (m : Int)) (.int (n : Int)) = false := by
        simp only [eqV]
        exact beq_eq_false_iff_ne.mpr (by omega)
      rw [this]
      have h' : ¬ n = m := fun e => h e.symm
      simp [h']

/-- all but what stands at p and q is as it was -/
def But2 (p q : Addr) (H H' : Hp) : Prop := ∀ b u, b ≠ p → b ≠ q → H b = some u → H' b = some u
theorem But2.refl {p q : Addr} (H : Hp) : But2 p q H H := fun _ _ _ _ h => h
theorem But2.trans {p q : Addr} {H H1 H2 : Hp} (a : But2 p q H H1) (b : But2 p q H1 H2) : But2 p q H H2 := fun c u h1 h2 h => b c u h1 h2 (a c u h1 h2 h)
theorem But2.of {p q : Addr} {H H' : Hp} (h : Same H H') : But2 p q H H' := fun b u _ _ e => h b u e
theorem same_new {H : Hp} {p : Addr} (h : H p = none) (o : HO) : Same H (upd H p o) := fun b u q => by rw [upd_ne (ne_of_none q h)]; exact q
theorem But2.upd1 {p q : Addr} {H : Hp} {o : HO} : But2 p q H (upd H p o) := fun b u h1 _ e => by rw [upd_ne h1]; exact e
theorem But2.upd2 {p q : Addr} {H : Hp} {o : HO} : But2 p q H (upd H q o) := fun b u _ h2 e => by rw [upd_ne h2]; exact e
theorem But2.upd0 {p q a : Addr} {H : Hp} {o : HO} (h : H a = none) : But2 p q H (upd H a o) := .of (same_new h o)
/-- tuples stand -/
def Tups (H H' : Hp) : Prop := ∀ b xs, H b = some (.tup xs) → H' b = some (.tup xs)
theorem Tups.of {H H' : Hp} (h : Same H H') : Tups H H' := fun b xs e => h b _ e
theorem Tups.trans {H H1 H2 : Hp} (a : Tups H H1) (b : Tups H1 H2) : Tups H H2 := fun c xs e => b c xs (a c xs e)
theorem But2.tups {p q : Addr} {H H' : Hp} {xs ys : List V} (h : But2 p q H H') (hp : H p = some (.lst xs)) (hq : H q = some (.lst ys)) : Tups H H' := fun b zs e =>
  h b _ (ne_of e hp (by intro z; cases z)) (ne_of e hq (by intro z; cases z)) e

/-- the expression t stands at v -/
def TreeAt (H : Hp) : Tr → V → Prop
  | .pl p l m c => fun v => ∃ a : Addr, v = .ref a ∧ H a = some (.tup [.str "place", .int p, .int l, .int m, .int (c : Int)])
  | .ch x y => fun v => ∃ (a i : Addr) (vx vy : V), v = .ref a ∧ H a = some (.tup [.str "choice", .ref i]) ∧ H i = some (.tup [vx, vy]) ∧ TreeAt H x vx ∧ TreeAt H y vy
  | .sq x y => fun v => ∃ (a i : Addr) (vx vy : V), v = .ref a ∧ H a = some (.tup [.str "sequence", .ref i]) ∧ H i = some (.tup [vx, vy]) ∧ TreeAt H x vx ∧ TreeAt H y vy
  | .an x => fun v => ∃ (a : Addr) (vx : V), v = .ref a ∧ H a = some (.tup [.str "any", vx]) ∧ TreeAt H x vx
  | .so x => fun v => ∃ (a : Addr) (vx : V), v = .ref a ∧ H a = some (.tup [.str "some", vx]) ∧ TreeAt H x vx
  | .ma x => fun v => ∃ (a : Addr) (vx : V), v = .ref a ∧ H a = some (.tup [.str "maybe", vx]) ∧ TreeAt H x vx
theorem TreeAt.keep {H H' : Hp} (k : Tups H H') : ∀ (t : Tr) (v : V), TreeAt H t v → TreeAt H' t v
  | .pl _ _ _ _, _, ⟨a, h1, h2⟩ => ⟨a, h1, k _ _ h2⟩
  | .ch x y, _, ⟨a, i, vx, vy, h1, h2, h3, h4, h5⟩ => ⟨a, i, vx, vy, h1, k _ _ h2, k _ _ h3, TreeAt.keep k x _ h4, TreeAt.keep k y _ h5⟩
  | .sq x y, _, ⟨a, i, vx, vy, h1, h2, h3, h4, h5⟩ => ⟨a, i, vx, vy, h1, k _ _ h2, k _ _ h3, TreeAt.keep k x _ h4, TreeAt.keep k y _ h5⟩
  | .an x, _, ⟨a, vx, h1, h2, h3⟩ => ⟨a, vx, h1, k _ _ h2, TreeAt.keep k x _ h3⟩
  | .so x, _, ⟨a, vx, h1, h2, h3⟩ => ⟨a, vx, h1, k _ _ h2, TreeAt.keep k x _ h3⟩
  | .ma x, _, ⟨a, vx, h1, h2, h3⟩ => ⟨a, vx, h1, k _ _ h2, TreeAt.keep k x _ h3⟩
/-- a place's tuple -/
def PlAt (H : Hp) (q : Pl) (v : V) : Prop := ∃ a : Addr, v = .ref a ∧ H a = some (.tup [.str "place", .int q.1, .int q.2.1, .int q.2.2.1, .int (q.2.2.2 : Int)])
theorem PlAt.keep {H H' : Hp} (k : Tups H H') {q : Pl} {v : V} : PlAt H q v → PlAt H' q v := fun ⟨a, h1, h2⟩ => ⟨a, h1, k _ _ h2⟩
/-- values that stand for things, one for one -/
def All2 {α : Type} (R : α → V → Prop) (xs : List α) (vs : List V) : Prop := xs.length = vs.length ∧ ∀ (i : Nat) (x : α) (v : V), xs[i]? = some x → vs[i]? = some v → R x v
theorem All2.nil {α : Type} {R : α → V → Prop} : All2 R [] [] := ⟨rfl, fun i x v h => by simp at h⟩
theorem All2.mono {α : Type} {R R' : α → V → Prop} {xs : List α} {vs : List V} (h : All2 R xs vs) (k : ∀ x v, R x v → R' x v) : All2 R' xs vs := ⟨h.1, fun i x v h1 h2 => k _ _ (h.2 i x v h1 h2)⟩
theorem All2.snoc {α : Type} {R : α → V → Prop} {xs : List α} {vs : List V} {x : α} {v : V} (h : All2 R xs vs) (r : R x v) : All2 R (xs ++ [x]) (vs ++ [v]) := by
  refine ⟨by simp [h.1], fun i y w h1 h2 => ?_⟩
  by_cases hi : i < xs.length
  · rw [List.getElem?_append_left hi] at h1
    rw [List.getElem?_append_left (by rw [← h.1]; exact hi)] at h2
    exact h.2 i y w h1 h2
  · rw [List.getElem?_append_right (by omega)] at h1
    rw [List.getElem?_append_right (by have := h.1; omega), ← h.1] at h2
    cases hk : i - xs.length with
    | zero =>
      rw [hk] at h1 h2
      have e1 : x = y := by simpa using h1
      have e2 : v = w := by simpa using h2
      rw [← e1, ← e2]
      exact r
    | succ n => rw [hk] at h1; simp at h1
theorem All2.append {α : Type} {R : α → V → Prop} {xs ys : List α} {vs ws : List V} (h : All2 R xs vs) (k : All2 R ys ws) : All2 R (xs ++ ys) (vs ++ ws) := by
  refine ⟨by simp [h.1, k.1], fun i y w h1 h2 => ?_⟩
  by_cases hi : i < xs.length
  · rw [List.getElem?_append_left hi] at h1
    rw [List.getElem?_append_left (by rw [← h.1]; exact hi)] at h2
    exact h.2 i y w h1 h2
  · rw [List.getElem?_append_right (by omega)] at h1
    rw [List.getElem?_append_right (by have := h.1; omega), ← h.1] at h2
    exact k.2 _ y w h1 h2
theorem All2.at {α : Type} {R : α → V → Prop} {xs : List α} {vs : List V} (h : All2 R xs vs) {i : Nat} {x : α} (e : xs[i]? = some x) : ∃ v, vs[i]? = some v ∧ R x v := by
  have hi : i < vs.length := by rw [← h.1]; exact (List.getElem?_eq_some_iff.mp e).1
  exact ⟨vs[i], List.getElem?_eq_getElem hi, h.2 i x _ e (List.getElem?_eq_getElem hi)⟩
theorem All2.at' {α : Type} {R : α → V → Prop} {xs : List α} {vs : List V} (h : All2 R xs vs) {i : Nat} {v : V} (e : vs[i]? = some v) : ∃ x, xs[i]? = some x ∧ R x v := by
  have hi : i < xs.length := by rw [h.1]; exact (List.getElem?_eq_some_iff.mp e).1
  exact ⟨xs[i], List.getElem?_eq_getElem hi, h.2 i _ v (List.getElem?_eq_getElem hi) e⟩
theorem All2.set {α : Type} {R : α → V → Prop} {xs : List α} {vs : List V} {x : α} {v : V} (h : All2 R xs vs) (i : Nat) (r : R x v) : All2 R (xs.set i x) (vs.set i v) := by
  refine ⟨by simp [h.1], fun j y w h1 h2 => ?_⟩
  by_cases e : i = j
  · subst e
    have hi : i < xs.length := by
      have := (List.getElem?_eq_some_iff.mp h1).1
      simpa using this
    rw [List.getElem?_set_self hi] at h1
    rw [List.getElem?_set_self (by rw [← h.1]; exact hi)] at h2
    cases h1
    cases h2
    exact r
  · rw [List.getElem?_set_ne e] at h1 h2
    exact h.2 j y w h1 h2
theorem All2.take {α : Type} {R : α → V → Prop} {xs : List α} {vs : List V} (h : All2 R xs vs) (n : Nat) : All2 R (xs.take n) (vs.take n) := by
  refine ⟨by simp [h.1], fun i y w h1 h2 => ?_⟩
  rw [List.getElem?_take] at h1 h2
  by_cases hi : i < n
  · rw [if_pos hi] at h1 h2
    exact h.2 i y w h1 h2
  · rw [if_neg hi] at h1
    cases h1
theorem line_big {n : Nat} (h : n ≤ 16000000) : n ≤ sizeLine := by rw [sizeLine_eq]; omega
theorem line_lt {n : Nat} (h : n ≤ 16000000) : n < sizeLine := by rw [sizeLine_eq]; omega

/-! ### a call of what an item of a table is -/
section
variable {X : Cx}
/-- of several defs that may be called: the promise goes with the address -/
structure HeldE (P : Program) (w : World) (K : PySem.W.Frag) (mg : Str → Option Value) (base : Heap) (k : Nat) (f : Addr) (sp : Sp) : Prop where
  ex : ∃ (fd : FuncData) (ps : List Str), FnOk P w K mg base CX0 k f fd ps sp ∧ PySem.W.keepIn K (.ref f) = true ∧ Binds K fd ps []
/-- the called thing is no name: it is walked first, then the arguments, then the def that it is keeps its promise -/
def tCallE (P : Program) (w : World) (K : PySem.W.Frag) (mg : Str → Option Value) (base : Heap) (k : Nat) (tf : TE) (t : TA) : TE := fun σ H Q => tf σ H fun x H1 => ∃ f sp, x = .ref f ∧ HeldE P w K mg base k f sp ∧ t σ H1 fun vs H2 => sp vs H2 Q (fun _ _ _ => False)
theorem pe_callE {k : Nat} {o i e : Expr} {es : List Expr} {tf : TE} {t : TA} {p pos : Pos} (hr : Room k X.A) (hf : PE X (.Subscript o i p) tf) (ha : PA X (e :: es) t)
    (he : starEach (e :: es) X.env = (false, eval e X.env) :: starEach es X.env := by rfl) (hpl : (backTo pos (starEach es X.env)).any (·.1) = false := by rfl) :
    PE X (.Call (.Subscript o i p) (e :: es) [] pos) (tCallE X.prog X.w X.K X.mg X.base k tf t) := by
  refine ⟨fun pins s σ H Q I h => ?_⟩
  have arm : eval (.Call (.Subscript o i p) (e :: es) [] pos) X.env = (do callWith pos (← eval (.Subscript o i p) X.env) [] (backTo pos (starEach (e :: es) X.env)) (backToKw pos (keywordEach [] X.env))) := rfl
  rw [arm]
  refine wpAny_bind (thn (hf.run pins s σ H _ I h) fun u s1 ⟨x, H1, I1, r1, f, sp, ex, hS, ht⟩ => ?_)
  subst ex
  obtain rfl : u = Value.ref f := r1
  obtain ⟨fd, ps, F, hk, hb⟩ := hS.ex
  refine PySem.W.callWith_K (h₀ := X.base) I1.ok.mod.kin hk (thn (ha.run pos pins s1 σ H1 _ I1 ht) fun us s2 ⟨vs, H2, I2, r, q⟩ => ⟨I2.kIn, ?_⟩) he hpl
  have q' : sp (vs ++ []) H2 Q (fun _ _ _ => False) := by rw [List.append_nil]; exact q
  exact run_fn F hr hb .nil (fun _ _ _ _ _ _ _ z => z.elim) I2 r q'
end
end Gk
/-! ### joined -/
namespace Gk
open PySem L2
def spJoined : Sp := fun vs H Q _ => ∃ (a b : Addr) (as bs : List Nat), vs = [.ref a, .ref b] ∧ H a = some (.lst (natL as)) ∧ H b = some (.lst (natL bs)) ∧ as.length + bs.length ≤ 10000 ∧
  ∀ (H' : Hp) (r : Addr), Same H H' → H r = none → H' r = some (.lst (natL (joined as bs))) → Q (.ref r) H'
theorem take_snoc {α : Type} {xs : List α} {i : Nat} {x : α} (h : xs[i]? = some x) : xs.take (i + 1) = xs.take i ++ [x] := by
  rw [List.take_succ, h]
  rfl
section
variable {P : Program} {w : World} {K : PySem.W.Frag} {mg : Str → Option Value} {base : Heap}
theorem scJ : FnScope ["one", "other", "item"] ["one", "other"] (defScope sJoined) := ⟨rfl, rfl, rfl, by decide +kernel, rfl, by decide +kernel, by decide +kernel⟩
theorem ok_joined {f : Addr} {fd : FuncData} (F : Fun K "joined" "joined" sJoined f fd) : FnOk P w K mg base CX0 1 f fd ["one", "other"] spJoined := by
  refine F.ok scJ (fun vs H Q E h => ?_) (fun cdv A outer s H vs Q E hr h => ?_)
  · obtain ⟨a, b, as, bs, rfl, _⟩ := h
    rfl
  obtain ⟨a, b, as, bs, rfl, ha, hb, hl, q⟩ := h
  refine ⟨_, pss_one (ps_ret (pe_op op_cat (pv 0) (pe_lc (own := [("item", 2)]) (g := gName 2) (by rfl) scJ.nd (pi_list (pv 1)) (blkOk_by (own := [("item", 2)]) (N := ["one", "other", "item"]) (sc := defScope sJoined) (by decide +kernel))
    (fun _ _ _ _ _ => pg_name (i := 2) scJ.nd rfl (Or.inl rfl)) (fun _ _ _ _ _ => pts_one (pt_cmpR (r := rIn K true) op_notIn_seq (pv 2) (pv 0) (by rfl))) (fun _ _ _ _ _ => pv 2)))), ?_⟩
  refine ⟨_, rfl, _, rfl, b, rfl, ⟨_, SqL.of hb⟩, fun D hD => ?_⟩
  refine lc_list (K := K) (a := b) (xs := natL bs) (fun i H' => Same H H' ∧ H' D = some (.lst (natL ((bs.take i).filter fun x => decide (x ∉ as))))) ⟨same_new hD _, upd_same⟩ (fun i H' _ h => SqL.of (h.1 _ _ hb)) ?_ ?_
  · rintro i x H' hx ⟨h1, h2⟩
    obtain ⟨n, hn, rfl⟩ := natL_get hx
    refine ⟨rfl, _, rfl, _, rfl, a, _, rfl, .inl (SqL.of (h1 _ _ ha)), rfl, natL_flat _, _, rfl, ?_⟩
    have e1 : (if true = true then !inV (V.int (n : Int)) (natL as) else inV (V.int (n : Int)) (natL as)) = decide (n ∉ as) := by
      rw [if_pos rfl, inV_nat]
      simp
    have hlen : ((bs.take i).filter fun x => decide (x ∉ as)).length ≤ 10000 := by
      have h3 := List.length_filter_le (fun x => decide (x ∉ as)) (bs.take i)
      rw [List.length_take] at h3
      omega
    rw [e1]
    refine ite2 (fun c => ?_) (fun c => ?_)
    · refine ⟨_, rfl, _, h2, (by rw [natL_length]; exact line_lt (by omega)), fun b' u e => ?_, ?_⟩
      · rw [upd_ne (ne_of_none e hD)]
        exact h1 _ _ e
      · rw [upd_same, take_snoc hn, List.filter_append, natL_app]
        simp only [List.filter_cons, c, if_true, List.filter_nil]
        rfl
    · refine ⟨h1, ?_⟩
      rw [h2, take_snoc hn, List.filter_append]
      simp only [List.filter_cons, c, List.filter_nil, List.append_nil]
      simp
  · rintro H' ⟨h1, h2⟩
    rw [natL_length, List.take_length] at h2
    have hlen : (bs.filter fun x => decide (x ∉ as)).length ≤ 10000 := by
      have h3 := List.length_filter_le (fun x => decide (x ∉ as)) bs
      omega
    refine ⟨a, D, _, _, rfl, rfl, h1 _ _ ha, h2, (by rw [natL_length, natL_length]; exact line_big (by omega)), fun r hr' => ?_⟩
    refine q _ r (h1.trans (same_new hr' _)) (h1.free hr') ?_
    rw [upd_same]
    unfold joined
    rw [natL_app]
end
end Gk
/-! ### the class Places -/
namespace Gk
open PySem L2
theorem fp_ : ¬ (("followers" : Str) = "places") := by decide +kernel
theorem pf_ : ¬ (("places" : Str) = "followers") := by decide +kernel
def pf (l s : Addr) : List (Str × V) := putF "followers" (.ref s) (putF "places" (.ref l) [])
theorem pf_eq (l s : Addr) : pf l s = ([("places", V.ref l), ("followers", V.ref s)] : List (Str × V)) := by
  show (if ("places" : Str) = "followers" then [(("places" : Str), V.ref s)] else (("places" : Str), V.ref l) :: putF "followers" (V.ref s) []) = ([("places", V.ref l), ("followers", V.ref s)] : List (Str × V))
  rw [if_neg pf_]
  all_goals rfl
theorem pf_places (l s : Addr) : (pf l s).lookup ("places" : Str) = some (.ref l) := by
  unfold pf
  rw [lookup_putF, if_neg pf_, lookup_putF, if_pos rfl]
theorem pf_fol (l s : Addr) : (pf l s).lookup ("followers" : Str) = some (.ref s) := by
  unfold pf
  rw [lookup_putF, if_pos rfl]
theorem pf_no (l s : Addr) {m : Str} (h1 : ¬ m = "followers") (h2 : ¬ m = "places") : (pf l s).lookup m = none := by
  unfold pf
  rw [lookup_putF, if_neg h1, lookup_putF, if_neg h2]
  all_goals rfl
theorem pf_noAdd (l s : Addr) : (pf l s).lookup ("add" : Str) = none := pf_no l s (by decide +kernel) (by decide +kernel)
theorem pf_noLink (l s : Addr) : (pf l s).lookup ("link" : Str) = none := pf_no l s (by decide +kernel) (by decide +kernel)
/-- a list of numbers, neither of the two lists of Places -/
def LN (H : Hp) (pl fl : Addr) (ns : List Nat) (v : V) : Prop := ∃ a : Addr, v = .ref a ∧ a ≠ pl ∧ a ≠ fl ∧ H a = some (.lst (natL ns))
theorem LN.keep {H H' : Hp} {pl fl : Addr} (k : But2 pl fl H H') {ns : List Nat} {v : V} : LN H pl fl ns v → LN H' pl fl ns v := fun ⟨a, h1, h2, h3, h4⟩ => ⟨a, h1, h2, h3, k _ _ h2 h3 h4⟩
/-- an object of Places stands at p, with the places qs and the followers F -/
structure PlacesAt (C : Addr) (H : Hp) (p pl fl : Addr) (qs : List Pl) (F : List (List Nat)) : Prop where
  obj : ∃ dx, H p = some (.ins C dx (pf pl fl))
  pls : ∃ pvs, H pl = some (.lst pvs) ∧ All2 (PlAt H) qs pvs
  fls : ∃ frs, H fl = some (.lst frs) ∧ All2 (LN H pl fl) F frs
  ne : pl ≠ fl
theorem PlacesAt.tups {C : Addr} {H H' : Hp} {p pl fl : Addr} {qs : List Pl} {F : List (List Nat)} (h : PlacesAt C H p pl fl qs F) (k : But2 pl fl H H') : Tups H H' := by
  obtain ⟨pvs, h1, _⟩ := h.pls
  obtain ⟨frs, h2, _⟩ := h.fls
  exact k.tups h1 h2
theorem PlacesAt.same {C : Addr} {H H' : Hp} {p pl fl : Addr} {qs : List Pl} {F : List (List Nat)} (h : PlacesAt C H p pl fl qs F) (k : Same H H') : PlacesAt C H' p pl fl qs F := by
  obtain ⟨dx, h0⟩ := h.obj
  obtain ⟨pvs, h1, h2⟩ := h.pls
  obtain ⟨frs, h3, h4⟩ := h.fls
  exact ⟨⟨dx, k _ _ h0⟩, ⟨pvs, k _ _ h1, h2.mono fun _ _ z => z.keep (.of k)⟩, ⟨frs, k _ _ h3, h4.mono fun _ _ z => z.keep (.of k)⟩, h.ne⟩
theorem PlacesAt.pne {C : Addr} {H : Hp} {p pl fl : Addr} {qs : List Pl} {F : List (List Nat)} (h : PlacesAt C H p pl fl qs F) : p ≠ pl ∧ p ≠ fl := by
  obtain ⟨dx, h0⟩ := h.obj
  obtain ⟨pvs, h1, _⟩ := h.pls
  obtain ⟨frs, h3, _⟩ := h.fls
  exact ⟨ne_of h0 h1 (by intro z; cases z), ne_of h0 h3 (by intro z; cases z)⟩
/-- the places' list is changed -/
theorem PlacesAt.setP {C : Addr} {H : Hp} {p pl fl : Addr} {qs qs' : List Pl} {F : List (List Nat)} {pvs' : List V} (h : PlacesAt C H p pl fl qs F) (k : All2 (PlAt H) qs' pvs') : PlacesAt C (upd H pl (.lst pvs')) p pl fl qs' F := by
  obtain ⟨dx, h0⟩ := h.obj
  obtain ⟨frs, h3, h4⟩ := h.fls
  have b : But2 pl fl H (upd H pl (.lst pvs')) := .upd1
  exact ⟨⟨dx, by rw [upd_ne h.pne.1]; exact h0⟩, ⟨pvs', upd_same, k.mono fun _ _ z => z.keep (h.tups b)⟩, ⟨frs, by rw [upd_ne (Ne.symm h.ne)]; exact h3, h4.mono fun _ _ z => z.keep b⟩, h.ne⟩
theorem PlacesAt.setF {C : Addr} {H : Hp} {p pl fl : Addr} {qs : List Pl} {F F' : List (List Nat)} {frs' : List V} (h : PlacesAt C H p pl fl qs F) (k : All2 (LN H pl fl) F' frs') : PlacesAt C (upd H fl (.lst frs')) p pl fl qs F' := by
  obtain ⟨dx, h0⟩ := h.obj
  obtain ⟨pvs, h1, h2⟩ := h.pls
  have b : But2 pl fl H (upd H fl (.lst frs')) := .upd2
  exact ⟨⟨dx, by rw [upd_ne h.pne.2]; exact h0⟩, ⟨pvs, by rw [upd_ne h.ne]; exact h1, h2.mono fun _ _ z => z.keep (h.tups b)⟩, ⟨frs', upd_same, k.mono fun _ _ z => z.keep b⟩, h.ne⟩
def spInit (C : Addr) : Sp := fun vs H Q _ => ∃ (p dx : Addr), vs = [.ref p] ∧ H p = some (.ins C dx []) ∧
  ∀ (H' : Hp) (pl fl : Addr), (∀ b u, b ≠ p → H b = some u → H' b = some u) → H pl = none → H fl = none → PlacesAt C H' p pl fl [] [[]] → Q .non H'
def spAdd (C : Addr) : Sp := fun vs H Q _ => ∃ (p pl fl : Addr) (qs : List Pl) (F : List (List Nat)) (q : Pl) (v : V), vs = [.ref p, v] ∧ PlacesAt C H p pl fl qs F ∧ PlAt H q v ∧ qs.length ≤ 1000 ∧ F.length ≤ 1000 ∧
  ∀ H' : Hp, But2 pl fl H H' → PlacesAt C H' p pl fl (qs ++ [q]) (F ++ [[]]) → Q (.int ((qs.length + 1 : Nat) : Int)) H'
/-- different numbers below n everywhere -/
def Wf (n : Nat) (F : List (List Nat)) : Prop := ∀ k, (F.getD k []).Nodup ∧ ∀ y ∈ F.getD k [], y < n
theorem Wf.link {n : Nat} {F : List (List Nat)} {ls fs : List Nat} (h : Wf n F) (hl : ∀ x ∈ ls, x < F.length) (fn : fs.Nodup) (fb : ∀ x ∈ fs, x < n) : Wf n (link F ls fs) := fun k =>
  ⟨link_nodup fn ls F hl (h k).1, fun y hy => by
    rcases (link_mem ls F hl).mp hy with z | z
    · exact (h k).2 y z
    · exact fb y z.2⟩
def spLink (C : Addr) : Sp := fun vs H Q _ => ∃ (p pl fl : Addr) (qs : List Pl) (F : List (List Nat)) (ls fs : List Nat) (va vb : V) (n : Nat), vs = [.ref p, va, vb] ∧ PlacesAt C H p pl fl qs F ∧ LN H pl fl ls va ∧ LN H pl fl fs vb ∧
  n ≤ 1000 ∧ Wf n F ∧ fs.Nodup ∧ (∀ x ∈ fs, x < n) ∧ (∀ x ∈ ls, x < F.length) ∧ ∀ H' : Hp, But2 pl fl H H' → PlacesAt C H' p pl fl qs (link F ls fs) → Q .non H'
structure Txt (K : PySem.W.Frag) (mg : Str → Option Value) (C : Addr) : Prop where
  cl : Cls K C
  nP : NoAttr K C "places"
  nF : NoAttr K C "followers"
  mgC : mg "Places" = some (.ref C)
  len : mg "len" = none
theorem ixN_nat {n j : Nat} (h : j < n) : ixN n (j : Int) = some j := by
  unfold ixN
  rw [if_pos (Int.natCast_nonneg j), if_pos (by omega)]
  rfl
section
variable {P : Program} {w : World} {K : PySem.W.Frag} {mg : Str → Option Value} {base : Heap}
theorem scI : FnScope ["self"] ["self"] (defScope sInit) := ⟨rfl, rfl, rfl, by decide +kernel, rfl, by decide +kernel, by decide +kernel⟩
theorem ok_init {f C : Addr} {fd : FuncData} (F : Fun K "__init__" "Places.__init__" sInit f fd) (T : Txt K mg C) : FnOk P w K mg base CX0 1 f fd ["self"] (spInit C) := by
  refine F.ok scI (fun vs H Q E h => ?_) (fun cdv A outer s H vs Q E hr h => ?_)
  · obtain ⟨p, dx, rfl, _⟩ := h
    rfl
  obtain ⟨p, dx, rfl, hp, k⟩ := h
  refine ⟨_, pss_cons (ps_fld (pv 0) (pe_lst pa_nil) rfl) (pss_one (ps_fld (pv 0) (pe_lst (pa_cons (pe_lst pa_nil) pa_nil)) rfl)), ?_⟩
  refine ⟨Nat.zero_le _, fun l hl => ?_⟩
  have npl : p ≠ l := ne_of_none hp hl
  refine ⟨_, rfl, p, C, dx, [], rfl, (by rw [upd_ne npl]; exact hp), T.cl, T.nP, (by show 0 < 1000; decide), ?_⟩
  refine ⟨Nat.zero_le _, fun a ha => ⟨line_big (by show 1 ≤ _; decide), fun m hm => ?_⟩⟩
  have nap : a ≠ p := fun q => by rw [q, upd_same] at ha; cases ha
  rw [upd_ne nap] at ha
  have nal : a ≠ l := fun q => by rw [q, upd_same] at ha; cases ha
  have ha' : H a = none := by rw [upd_ne nal] at ha; exact ha
  have nma : m ≠ a := fun q => by rw [q, upd_same] at hm; cases hm
  rw [upd_ne nma] at hm
  have nmp : m ≠ p := fun q => by rw [q, upd_same] at hm; cases hm
  rw [upd_ne nmp] at hm
  have nml : m ≠ l := fun q => by rw [q, upd_same] at hm; cases hm
  have hm' : H m = none := by rw [upd_ne nml] at hm; exact hm
  refine ⟨_, rfl, p, C, dx, _, rfl, (by rw [upd_ne (Ne.symm nmp), upd_ne (Ne.symm nap)]; exact upd_same), T.cl, T.nF, (by show 1 < 1000; decide), ?_⟩
  refine k _ l m (fun b u nb e => ?_) hl hm' ⟨⟨dx, upd_same⟩, ⟨[], ?_, All2.nil⟩, ⟨[.ref a], ?_, ?_⟩, Ne.symm nml⟩
  · rw [upd_ne nb, upd_ne (ne_of_none e hm'), upd_ne (ne_of_none e ha'), upd_ne nb, upd_ne (ne_of_none e hl)]
    exact e
  · rw [upd_ne (Ne.symm npl), upd_ne (Ne.symm nml), upd_ne (Ne.symm nal), upd_ne (Ne.symm npl), upd_same]
  · rw [upd_ne nmp, upd_same]
  · refine All2.snoc (xs := []) (vs := []) All2.nil ⟨a, rfl, nal, Ne.symm nma, ?_⟩
    rw [upd_ne nap, upd_ne (Ne.symm nma), upd_same]
    rfl
theorem scA : FnScope ["self", "place"] ["self", "place"] (defScope sAdd) := ⟨rfl, rfl, rfl, by decide +kernel, rfl, by decide +kernel, by decide +kernel⟩
theorem ok_add {f C : Addr} {fd : FuncData} (F : Fun K "add" "Places.add" sAdd f fd) (T : Txt K mg C) : FnOk P w K mg base CX0 1 f fd ["self", "place"] (spAdd C) := by
  refine F.ok scA (fun vs H Q E h => ?_) (fun cdv A outer s H vs Q E hr h => ?_)
  · obtain ⟨p, pl, fl, qs, F, q, v, rfl, _⟩ := h
    rfl
  obtain ⟨p, pl, fl, qs, G, q, v, rfl, hP, hq, l1, l2, k⟩ := h
  refine ⟨_, pss_cons (ps_expr (pe_bm PySem.F.plainAttrs_list PySem.F.slot_list_append PySem.F.type_list_append mt_append (pe_fld (pv 0) rfl) (pa_cons (pv 1) pa_nil)))
    (pss_cons (ps_expr (pe_bm PySem.F.plainAttrs_list PySem.F.slot_list_append PySem.F.type_list_append mt_append (pe_fld (pv 0) rfl) (pa_cons (pe_lst pa_nil) pa_nil)))
    (pss_one (ps_ret (pe_callB call_len_seq (by rfl) T.len PySem.boot_len (pa_cons (pe_fld (pv 0) rfl) pa_nil))))), ?_⟩
  obtain ⟨dx, h0⟩ := hP.obj
  obtain ⟨pvs, h1, h2⟩ := hP.pls
  have hlen := h2.1
  refine ⟨_, rfl, p, C, dx, _, _, rfl, h0, T.cl, T.nP, pf_places _ _, .inl ⟨rfl, _, SqL.of h1⟩, _, rfl, pl, _, _, rfl, rfl, h1, line_lt (by omega), ?_⟩
  have hP1 : PlacesAt C (upd H pl (.lst (pvs ++ [v]))) p pl fl (qs ++ [q]) G := hP.setP (h2.snoc hq)
  obtain ⟨dx1, h01⟩ := hP1.obj
  obtain ⟨frs, h31, h41⟩ := hP1.fls
  have hlen2 := h41.1
  refine ⟨_, rfl, p, C, dx1, _, _, rfl, h01, T.cl, T.nF, pf_fol _ _, .inl ⟨rfl, _, SqL.of h31⟩, Nat.zero_le _, fun a ha => ?_⟩
  have hP2 := hP1.same (same_new ha (.lst []))
  have s2 := same_new ha (.lst [])
  refine ⟨fl, _, _, rfl, rfl, s2 _ _ h31, line_lt (by omega), ?_⟩
  have hP3 : PlacesAt C (upd (upd (upd H pl (.lst (pvs ++ [v]))) a (.lst [])) fl (.lst (frs ++ [.ref a]))) p pl fl (qs ++ [q]) (G ++ [[]]) := by
    obtain ⟨frs', h32, h42⟩ := hP2.fls
    have e : frs' = frs := by
      have := s2 _ _ h31
      rw [h32] at this
      cases this
      rfl
    subst e
    refine hP2.setF (h42.snoc ⟨a, rfl, ?_, ?_, ?_⟩)
    · exact fun e => by rw [e, upd_same] at ha; cases ha
    · exact Ne.symm (ne_of_none h31 ha)
    · rw [upd_same]; rfl
  obtain ⟨dx3, h03⟩ := hP3.obj
  obtain ⟨pvs3, h13, h23⟩ := hP3.pls
  refine ⟨_, rfl, p, C, dx3, _, _, rfl, h03, T.cl, T.nP, pf_places _ _, pl, _, rfl, .inl (SqL.of h13), ?_⟩
  have e : pvs3.length = qs.length + 1 := by rw [← h23.1]; simp
  rw [e]
  exact k _ (But2.upd1.trans ((But2.of s2).trans But2.upd2)) hP3
theorem scK : FnScope ["self", "lasts", "firsts", "last"] ["self", "lasts", "firsts"] (defScope sLink) := ⟨rfl, rfl, rfl, by decide +kernel, rfl, by decide +kernel, by decide +kernel⟩
theorem ok_link {f C g : Addr} {fd gd : FuncData} (F : Fun K "link" "Places.link" sLink f fd) (T : Txt K mg C) (G : FnOk P w K mg base CX0 1 g gd ["one", "other"] spJoined) (bG : Binds K gd ["one", "other"] []) (kG : PySem.W.keepIn K (.ref g) = true) (mG : mg "joined" = some (.ref g)) :
    FnOk P w K mg base CX0 2 f fd ["self", "lasts", "firsts"] (spLink C) := by
  refine F.ok scK (fun vs H Q E h => ?_) (fun cdv A outer s H vs Q E hr h => ?_)
  · obtain ⟨p, pl, fl, qs, F, ls, fs, va, vb, n, rfl, _⟩ := h
    rfl
  obtain ⟨p, pl, fl, qs, F0, ls, fs, va, vb, n, rfl, hP, ⟨a, rfl, a1, a2, ha⟩, ⟨b, rfl, b1, b2, hb⟩, hn, wf, fn, fb, lb, k⟩ := h
  refine ⟨_, pss_one (ps_for PassesOwn.never rfl (pi_list (pv 1)) (pg_name (i := 3) scK.nd rfl (Or.inl rfl))
    (pss_one (ps_asg (pe_call G hr rfl mG kG bG .nil pass0 (pa_cons (pe_ix ix_list (pe_fld (pv 0) rfl) (pv 3) (fun _ _ => rfl)) (pa_cons (pv 2) pa_nil))) (pg_sub (pe_fld (pv 0) rfl) (pv 3) set_list)))), ?_⟩
  refine ⟨_, rfl, a, rfl, ⟨_, SqL.of ha⟩, for_list (K := K) (a := a) (xs := natL ls) (fun i σ H' => ∃ v : Option V, σ = [some (.ref p), some (.ref a), some (.ref b), v] ∧ But2 pl fl H H' ∧ PlacesAt C H' p pl fl qs (link F0 (ls.take i) fs))
    ⟨none, rfl, But2.refl _, hP⟩ (fun i σ H' _ ⟨_, _, h1, _⟩ => SqL.of (h1 _ _ a1 a2 ha)) ?_ ?_⟩
  · rintro i x σ H' hx ⟨v, rfl, h1, h2⟩
    obtain ⟨l, hl, rfl⟩ := natL_get hx
    have lm : l ∈ ls := List.mem_of_getElem? hl
    have hlt := lb l lm
    have htake : ∀ x ∈ ls.take i, x < F0.length := fun x hx => lb x (List.mem_of_mem_take hx)
    have wf1 : Wf n (link F0 (ls.take i) fs) := wf.link htake fn fb
    obtain ⟨dx, h0⟩ := h2.obj
    obtain ⟨frs, h3, h4⟩ := h2.fls
    have hFl : (link F0 (ls.take i) fs).length = F0.length := link_length _ _ _
    have hgd : (link F0 (ls.take i) fs)[l]? = some ((link F0 (ls.take i) fs).getD l []) := by
      rw [List.getD_eq_getElem?_getD, List.getElem?_eq_getElem (by rw [hFl]; exact hlt)]
      rfl
    obtain ⟨vx, hvx, ⟨x, rfl, x1, x2, hx'⟩⟩ := h4.at hgd
    have lenA : ((link F0 (ls.take i) fs).getD l []).length ≤ n := nodup_bound n _ (wf1 l).1 (wf1 l).2
    have lenB : fs.length ≤ n := nodup_bound n _ fn fb
    refine ⟨_, rfl, p, C, dx, _, _, rfl, h0, T.cl, T.nF, pf_fol _ _, _, rfl, fl, _, _, _, rfl, rfl, SqL.of h3, atI_nat hvx, _, rfl, ?_⟩
    refine ⟨x, b, _, fs, rfl, hx', h1 _ _ b1 b2 hb, by omega, fun H2 r s2 r0 hr2 => ?_⟩
    have hP2 := h2.same s2
    obtain ⟨dx2, h02⟩ := hP2.obj
    obtain ⟨frs2, h32, h42⟩ := hP2.fls
    have frl := h42.1
    refine ⟨_, rfl, p, C, dx2, _, _, rfl, h02, T.cl, T.nF, pf_fol _ _, _, rfl, fl, _, _, l, rfl, rfl, h32, ixN_nat (by rw [← frl, hFl]; exact hlt), ?_⟩
    refine ⟨_, rfl, h1.trans ((But2.of s2).trans But2.upd2), ?_⟩
    have e : link F0 (ls.take (i + 1)) fs = (link F0 (ls.take i) fs).set l (joined ((link F0 (ls.take i) fs).getD l []) fs) := by
      rw [take_snoc hl]
      unfold link
      rw [List.foldl_append]
      rfl
    rw [e]
    obtain ⟨pvs, hp1, _⟩ := h2.pls
    exact hP2.setF (h42.set l ⟨r, rfl, Ne.symm (ne_of_none hp1 r0), Ne.symm (ne_of_none h3 r0), hr2⟩)
  · rintro σ H' ⟨v, rfl, h1, h2⟩
    rw [natL_length, List.take_length] at h2
    exact k H' h1 h2
end
end Gk
/-! ### walk and its kinds -/
namespace Gk
open PySem L2
/-- what a walk so far has found -/
structure Bnd (s : Res) (qs : List Pl) : Prop where
  len : s.F.length = qs.length + 1
  wf : Wf 1000 s.F
  fn : s.f.Nodup
  fb : ∀ x ∈ s.f, x < s.F.length
  ln : s.l.Nodup
  lb : ∀ x ∈ s.l, x < s.F.length
theorem wf_walk {t : Tr} {F : List (List Nat)} (h : Wf 1000 F) (hl : F.length + t.size ≤ 1000) : Wf 1000 (walkM t F).F := fun k => by
  have w := walk_ok t F
  have wl := w.len
  by_cases hk : k < F.length
  · rw [w.old k hk]
    exact h k
  · exact ⟨w.nnd k (by omega), fun y hy => by have := w.new k (by omega) y hy; omega⟩
theorem Bnd.walk {t : Tr} {F : List (List Nat)} {qs : List Pl} (h : F.length = qs.length + 1) (wf : Wf 1000 F) (hl : qs.length + t.size ≤ 900) : Bnd (walkM t F) (qs ++ t.leaves) := by
  have w := walk_ok t F
  have wl := w.len
  refine ⟨by rw [List.length_append, leaves_length]; omega, wf_walk wf (by omega), w.fnd, fun x hx => (w.fin x hx).2, w.lnd, fun x hx => (w.lin x hx).2⟩
theorem Bnd.flen {s : Res} {qs : List Pl} (h : Bnd s qs) : s.f.length ≤ s.F.length := nodup_bound _ _ h.fn h.fb
theorem Bnd.llen {s : Res} {qs : List Pl} (h : Bnd s qs) : s.l.length ≤ s.F.length := nodup_bound _ _ h.ln h.lb
/-- one item more of a sequence, of a choice -/
def stepS (s : Res) (c : Tr) : Res := ⟨s.e && (walkM c s.F).e, if s.e then joined s.f (walkM c s.F).f else s.f, if (walkM c s.F).e then joined s.l (walkM c s.F).l else (walkM c s.F).l, link (walkM c s.F).F s.l (walkM c s.F).f⟩
def stepC (s : Res) (c : Tr) : Res := ⟨s.e || (walkM c s.F).e, joined s.f (walkM c s.F).f, joined s.l (walkM c s.F).l, (walkM c s.F).F⟩
theorem Bnd.seq {s : Res} {qs : List Pl} {c : Tr} (h : Bnd s qs) (hl : qs.length + c.size ≤ 900) : Bnd (stepS s c) (qs ++ c.leaves) := by
  have b := Bnd.walk h.len h.wf hl
  have w := walk_ok c s.F
  have wl := w.len
  have hlen := h.len
  have lk : ∀ x ∈ s.l, x < (walkM c s.F).F.length := fun x hx => by have := h.lb x hx; omega
  have ll : (link (walkM c s.F).F s.l (walkM c s.F).f).length = (walkM c s.F).F.length := link_length _ _ _
  refine ⟨?_, b.wf.link lk b.fn (fun x hx => by have := b.fb x hx; omega), ?_, fun x hx => ?_, ?_, fun x hx => ?_⟩
  · show (link (walkM c s.F).F s.l (walkM c s.F).f).length = _
    rw [ll]; exact b.len
  · show (if s.e then joined s.f (walkM c s.F).f else s.f).Nodup
    split
    · exact nodup_joined h.fn b.fn
    · exact h.fn
  · have hx : x ∈ (if s.e then joined s.f (walkM c s.F).f else s.f) := hx
    show x < (link (walkM c s.F).F s.l (walkM c s.F).f).length
    rw [ll]
    have z : x ∈ s.f ∨ x ∈ (walkM c s.F).f := by
      split at hx
      · exact mem_joined.mp hx
      · exact .inl hx
    rcases z with z | z
    · have := h.fb x z; omega
    · exact b.fb x z
  · show (if (walkM c s.F).e then joined s.l (walkM c s.F).l else (walkM c s.F).l).Nodup
    split
    · exact nodup_joined h.ln b.ln
    · exact b.ln
  · have hx : x ∈ (if (walkM c s.F).e then joined s.l (walkM c s.F).l else (walkM c s.F).l) := hx
    show x < (link (walkM c s.F).F s.l (walkM c s.F).f).length
    rw [ll]
    have z : x ∈ s.l ∨ x ∈ (walkM c s.F).l := by
      split at hx
      · exact mem_joined.mp hx
      · exact .inr hx
    rcases z with z | z
    · have := h.lb x z; omega
    · exact b.lb x z
theorem Bnd.cho {s : Res} {qs : List Pl} {c : Tr} (h : Bnd s qs) (hl : qs.length + c.size ≤ 900) : Bnd (stepC s c) (qs ++ c.leaves) := by
  have b := Bnd.walk h.len h.wf hl
  have w := walk_ok c s.F
  have wl := w.len
  refine ⟨b.len, b.wf, nodup_joined h.fn b.fn, fun x hx => ?_, nodup_joined h.ln b.ln, fun x hx => ?_⟩
  · show x < (walkM c s.F).F.length
    rcases mem_joined.mp hx with z | z
    · have := h.fb x z; omega
    · exact b.fb x z
  · show x < (walkM c s.F).F.length
    rcases mem_joined.mp hx with z | z
    · have := h.lb x z; omega
    · exact b.lb x z
/-- a walk over an expression of which ok holds -/
def spWk (C : Addr) (ok : Tr → Prop) : Sp := fun vs H Q _ => ∃ (p pl fl : Addr) (qs : List Pl) (F : List (List Nat)) (t : Tr) (v : V), vs = [.ref p, v] ∧ PlacesAt C H p pl fl qs F ∧ TreeAt H t v ∧ ok t ∧
  F.length = qs.length + 1 ∧ Wf 1000 F ∧ qs.length + t.size ≤ 900 ∧ ∀ (H' : Hp) (r : Addr) (vf vl : V), But2 pl fl H H' → PlacesAt C H' p pl fl (qs ++ t.leaves) (walkM t F).F →
    H' r = some (.tup [.bl (walkM t F).e, vf, vl]) → LN H' pl fl (walkM t F).f vf → LN H' pl fl (walkM t F).l vl → Q (.ref r) H'
section
variable {P : Program} {w : World} {K : PySem.W.Frag} {mg : Str → Option Value} {base : Heap}
theorem LN.ne_new {H : Hp} {pl fl : Addr} {C p : Addr} {qs : List Pl} {F : List (List Nat)} (h : PlacesAt C H p pl fl qs F) {a : Addr} (n : H a = none) : a ≠ pl ∧ a ≠ fl := by
  obtain ⟨pvs, h1, _⟩ := h.pls
  obtain ⟨frs, h3, _⟩ := h.fls
  exact ⟨Ne.symm (ne_of_none h1 n), Ne.symm (ne_of_none h3 n)⟩
theorem scP : FnScope ["places", "choice", "number"] ["places", "choice"] (defScope sWPl) := ⟨rfl, rfl, rfl, by decide +kernel, rfl, by decide +kernel, by decide +kernel⟩
theorem ok_wpl {f C g : Addr} {fd gd : FuncData} (F : Fun K "walk_place" "walk_place" sWPl f fd) (T : Txt K mg C) (G : FnOk P w K mg base CX0 1 g gd ["self", "place"] (spAdd C)) (bG : Binds K gd ["self", "place"] []) (mG : Meth K C "add" g) :
    FnOk P w K mg base CX0 2 f fd ["places", "choice"] (spWk C fun t => ∃ p l m c, t = .pl p l m c) := by
  refine F.ok scP (fun vs H Q E h => ?_) (fun cdv A outer s H vs Q E hr h => ?_)
  · obtain ⟨p, pl, fl, qs, F, t, v, rfl, _⟩ := h
    rfl
  obtain ⟨p, pl, fl, qs, F0, t, v, rfl, hP, hT, ⟨pp, ll, mm, cc, rfl⟩, hlen, wf, hsz, k⟩ := h
  refine ⟨_, pss_cons (ps_set (i := 2) scP.nd rfl (Or.inl rfl) (pe_meth (pv 0) T.cl mG G hr bG .nil pass0 (pa_cons (pv 1) pa_nil)))
    (pss_one (ps_ret (pe_tup (pa_cons pe_bl (pa_cons (pe_lst (pa_cons (pv 2) pa_nil)) (pa_cons (pe_lst (pa_cons (pv 2) pa_nil)) pa_nil)))))), ?_⟩
  obtain ⟨dx, h0⟩ := hP.obj
  have hsz' : qs.length + 1 ≤ 900 := hsz
  refine ⟨_, rfl, p, dx, _, rfl, h0, pf_noAdd _ _, _, rfl, p, pl, fl, qs, F0, (pp, ll, mm, cc), v, rfl, hP, hT, by omega, by omega, fun H1 b1 hP1 => ?_⟩
  have en : (((qs.length + 1 : Nat) : Int)) = (F0.length : Int) := by rw [hlen]
  rw [en]
  refine ⟨_, rfl, line_big (by show 1 ≤ _; decide), fun a ha => ?_⟩
  refine ⟨_, rfl, line_big (by show 1 ≤ _; decide), fun b hb => ⟨line_big (by show 3 ≤ _; decide), fun r hr' => ?_⟩⟩
  have s1 := same_new ha (.lst [.int (F0.length : Int)])
  have s2 := same_new hb (.lst [.int (F0.length : Int)])
  have s3 := same_new hr' (.tup [.bl false, .ref a, .ref b])
  have na := LN.ne_new hP1 ha
  have nb := LN.ne_new (hP1.same s1) hb
  refine k _ r (.ref a) (.ref b) (b1.trans ((But2.of s1).trans ((But2.of s2).trans (But2.of s3)))) (((hP1.same s1).same s2).same s3) upd_same ⟨a, rfl, na.1, na.2, ?_⟩ ⟨b, rfl, nb.1, nb.2, ?_⟩
  · exact s3 _ _ (s2 _ _ upd_same)
  · exact s3 _ _ upd_same
theorem scSq : FnScope ["places", "choice", "empty", "firsts", "lasts", "item", "found"] ["places", "choice"] (defScope sWSq) := ⟨rfl, rfl, rfl, by decide +kernel, rfl, by decide +kernel, by decide +kernel⟩
theorem ok_wsq {f C g j k : Addr} {fd gd jd kd : FuncData} {lv d : Nat} (F : Fun K "walk_sequence" "walk_sequence" sWSq f fd) (T : Txt K mg C)
    (GW : FnOk P w K mg base CX0 (lv + 2) g gd ["places", "choice"] (spWk C fun t => t.depth < d)) (bW : Binds K gd ["places", "choice"] []) (kW : PySem.W.keepIn K (.ref g) = true) (mW : mg "walk" = some (.ref g))
    (GJ : FnOk P w K mg base CX0 1 j jd ["one", "other"] spJoined) (bJ : Binds K jd ["one", "other"] []) (kJ : PySem.W.keepIn K (.ref j) = true) (mJ : mg "joined" = some (.ref j))
    (GL : FnOk P w K mg base CX0 2 k kd ["self", "lasts", "firsts"] (spLink C)) (bL : Binds K kd ["self", "lasts", "firsts"] []) (mL : Meth K C "link" k) :
    FnOk P w K mg base CX0 (lv + 3) f fd ["places", "choice"] (spWk C fun t => ∃ a b, t = .sq a b ∧ a.depth < d ∧ b.depth < d) := by
  refine F.ok scSq (fun vs H Q E h => ?_) (fun cdv A outer s H vs Q E hr h => ?_)
  · obtain ⟨p, pl, fl, qs, F, t, v, rfl, _⟩ := h
    rfl
  obtain ⟨p, pl, fl, qs, F0, t, v, rfl, hP, hT, ⟨ta, tb, rfl, da, db⟩, hlen, wf, hsz, q⟩ := h
  obtain ⟨ca, ci, vx, vy, rfl, hca, hci, hTx, hTy⟩ := hT
  refine ⟨_, pss_cons (ps_set (i := 2) scSq.nd rfl (Or.inl rfl) pe_bl) (pss_cons (ps_set (i := 3) scSq.nd rfl (Or.inl rfl) (pe_lst pa_nil)) (pss_cons (ps_set (i := 4) scSq.nd rfl (Or.inl rfl) (pe_lst pa_nil))
    (pss_cons (ps_for PassesOwn.never rfl (pi_tup (pe_ix ix_tup (pv 1) pe_int (fun _ _ => rfl))) (pg_name (i := 5) scSq.nd rfl (Or.inl rfl))
      (pss_cons (ps_set (i := 6) scSq.nd rfl (Or.inl rfl) (pe_call GW hr rfl mW kW bW .nil pass0 (pa_cons (pv 0) (pa_cons (pv 5) pa_nil))))
      (pss_cons (ps_expr (pe_meth (pv 0) T.cl mL GL (hr.mono (by omega)) bL .nil pass0 (pa_cons (pv 4) (pa_cons (pe_ix ix_tup (pv 6) pe_int (fun _ _ => rfl)) pa_nil))))
      (pss_cons (ps_if (pt_val (pv 2)) (pss_one (ps_set (i := 3) scSq.nd rfl (Or.inl rfl) (pe_call GJ (hr.mono (by omega)) rfl mJ kJ bJ .nil pass0 (pa_cons (pv 3) (pa_cons (pe_ix ix_tup (pv 6) pe_int (fun _ _ => rfl)) pa_nil))))) pss_nil)
      (pss_cons (ps_set (i := 4) scSq.nd rfl (Or.inl rfl) (pe_ifExp (pt_val (pe_ix ix_tup (pv 6) pe_int (fun _ _ => rfl))) (pe_call GJ (hr.mono (by omega)) rfl mJ kJ bJ .nil pass0 (pa_cons (pv 4) (pa_cons (pe_ix ix_tup (pv 6) pe_int (fun _ _ => rfl)) pa_nil))) (pe_ix ix_tup (pv 6) pe_int (fun _ _ => rfl))))
      (pss_one (ps_set (i := 2) scSq.nd rfl (Or.inl rfl) (pe_and (pv 2) (pe_one (pe_ix ix_tup (pv 6) pe_int (fun _ _ => rfl)))))))))))
    (pss_one (ps_ret (pe_tup (pa_cons (pv 2) (pa_cons (pv 3) (pa_cons (pv 4) pa_nil))))))))), ?_⟩
  refine ⟨Nat.zero_le _, fun f0 hf0 => ⟨Nat.zero_le _, fun l0 hl0 => ?_⟩⟩
  have s1 := same_new hf0 (.lst [])
  have s2 := same_new hl0 (.lst [])
  have hP2 := (hP.same s1).same s2
  have nf := LN.ne_new hP hf0
  have nl := LN.ne_new (hP.same s1) hl0
  have sz : qs.length + (ta.size + tb.size) ≤ 900 := hsz
  -- the items by turns
  let st : Nat → Res := fun i => match i with
    | 0 => ⟨true, [], [], F0⟩
    | 1 => stepS ⟨true, [], [], F0⟩ ta
    | _ => stepS (stepS ⟨true, [], [], F0⟩ ta) tb
  let ps : Nat → List Pl := fun i => match i with
    | 0 => qs
    | 1 => qs ++ ta.leaves
    | _ => (qs ++ ta.leaves) ++ tb.leaves
  have step : ∀ i x, ([vx, vy] : List V)[i]? = some x → ∃ c, TreeAt H c x ∧ c.depth < d ∧ st (i + 1) = stepS (st i) c ∧ ps (i + 1) = ps i ++ c.leaves ∧ (ps i).length + c.size ≤ 900 := fun i x hx => by
    match i, hx with
    | 0, hx => cases hx; exact ⟨ta, hTx, da, rfl, rfl, by show qs.length + _ ≤ _; omega⟩
    | 1, hx => cases hx; exact ⟨tb, hTy, db, rfl, rfl, by show (qs ++ ta.leaves).length + _ ≤ _; rw [List.length_append, leaves_length]; omega⟩
    | n + 2, hx => simp at hx
  refine ⟨_, rfl, ca, _, _, _, rfl, rfl, SqT.of (s2 _ _ (s1 _ _ hca)), atI_nat (j := 1) rfl, ci, rfl, ⟨_, SqT.of (s2 _ _ (s1 _ _ hci))⟩, ?_⟩
  refine for_tup (K := K) (a := ci) (xs := [vx, vy]) (fun i σ H' => ∃ (vf vl : V) (v5 v6 : Option V), σ = [some (.ref p), some (.ref ca), some (.bl (st i).e), some vf, some vl, v5, v6] ∧ But2 pl fl H H' ∧ PlacesAt C H' p pl fl (ps i) (st i).F ∧
      LN H' pl fl (st i).f vf ∧ LN H' pl fl (st i).l vl ∧ Bnd (st i) (ps i)) ?_ ?_ ?_ ?_
  · refine ⟨.ref f0, .ref l0, none, none, rfl, (But2.of s1).trans (But2.of s2), hP2, ⟨f0, rfl, nf.1, nf.2, s2 _ _ upd_same⟩, ⟨l0, rfl, nl.1, nl.2, upd_same⟩, ⟨hlen, wf, List.nodup_nil, (fun x hx => nomatch hx), List.nodup_nil, (fun x hx => nomatch hx)⟩⟩
  · rintro i σ H' _ ⟨_, _, _, _, _, b, _⟩
    exact SqT.of (hP.tups b _ _ hci)
  · rintro i x σ H' hx ⟨vf, vl, v5, v6, rfl, b, hP', hf, hl, bd⟩
    obtain ⟨c, hTc, dc, es, ep, hc⟩ := step i x hx
    have bdn : Bnd (st (i + 1)) (ps (i + 1)) := by rw [es, ep]; exact bd.seq hc
    have bw := Bnd.walk bd.len bd.wf hc
    have wk := walk_ok c (st i).F
    have wl := wk.len
    have bl := bd.len
    refine ⟨_, rfl, _, rfl, p, pl, fl, ps i, (st i).F, c, x, rfl, hP', hTc.keep (hP.tups b), dc, bd.len, bd.wf, hc, fun H1 r wf1 wl1 b1 hP1 hr1 hf1 hl1 => ?_⟩
    obtain ⟨af, rfl, af1, af2, af3⟩ := hf
    obtain ⟨al, rfl, al1, al2, al3⟩ := hl
    obtain ⟨bf, rfl, bf1, bf2, bf3⟩ := hf1
    obtain ⟨bl', rfl, bl1, bl2, bl3⟩ := hl1
    obtain ⟨dx1, ho1⟩ := hP1.obj
    -- places.link(lasts, found[1])
    refine ⟨_, rfl, p, dx1, _, rfl, ho1, pf_noLink _ _, _, rfl, _, rfl, r, _, _, _, rfl, rfl, SqT.of hr1, atI_nat (j := 1) rfl, ?_⟩
    refine ⟨p, pl, fl, _, _, (st i).l, (walkM c (st i).F).f, .ref al, .ref bf, 1000, rfl, hP1, ⟨al, rfl, al1, al2, b1 _ _ al1 al2 al3⟩, ⟨bf, rfl, bf1, bf2, bf3⟩, Nat.le_refl _, bw.wf, bw.fn, (fun x hx => by have := bw.fb x hx; omega), (fun x hx => by have := bd.lb x hx; omega), fun H2 b2 hP2' => ?_⟩
    have hr2 : H2 r = some (.tup [.bl (walkM c (st i).F).e, .ref bf, .ref bl']) := hP1.tups b2 _ _ hr1
    have bf3' : H2 bf = some (.lst (natL (walkM c (st i).F).f)) := b2 _ _ bf1 bf2 bf3
    have bl3' : H2 bl' = some (.lst (natL (walkM c (st i).F).l)) := b2 _ _ bl1 bl2 bl3
    have af3' : H2 af = some (.lst (natL (st i).f)) := b2 _ _ af1 af2 (b1 _ _ af1 af2 af3)
    have al3' : H2 al = some (.lst (natL (st i).l)) := b2 _ _ al1 al2 (b1 _ _ al1 al2 al3)
    -- what follows the if
    have tail : ∀ (H3 : Hp) (vf3 : Addr), But2 pl fl H2 H3 → Same H2 H3 → vf3 ≠ pl → vf3 ≠ fl → H3 vf3 = some (.lst (natL (if (st i).e then joined (st i).f (walkM c (st i).F).f else (st i).f))) →
        ∀ (vl3 : Addr) (H4 : Hp), Same H3 H4 → vl3 ≠ pl → vl3 ≠ fl → H4 vl3 = some (.lst (natL (if (walkM c (st i).F).e then joined (st i).l (walkM c (st i).F).l else (walkM c (st i).F).l))) →
        ∃ (vf vl : V) (v5 v6 : Option V), ([some (.ref p), some (.ref ca), some (.bl ((st i).e && (walkM c (st i).F).e)), some (.ref vf3), some (.ref vl3), some x, some (.ref r)] : List (Option V)) = [some (.ref p), some (.ref ca), some (.bl (st (i + 1)).e), some vf, some vl, v5, v6] ∧ But2 pl fl H H4 ∧ PlacesAt C H4 p pl fl (ps (i + 1)) (st (i + 1)).F ∧
          LN H4 pl fl (st (i + 1)).f vf ∧ LN H4 pl fl (st (i + 1)).l vl ∧ Bnd (st (i + 1)) (ps (i + 1)) := fun H3 vf3 b3 s3 n1 n2 e3 vl3 H4 s4 n3 n4 e4 => by
      refine ⟨.ref vf3, .ref vl3, some x, some (.ref r), by rw [es]; rfl, b.trans (b1.trans (b2.trans (b3.trans (.of s4)))), ?_, ?_, ?_, bdn⟩
      · rw [es, ep]
        exact (hP2'.same s3).same s4
      · rw [es]
        exact ⟨vf3, rfl, n1, n2, s4 _ _ e3⟩
      · rw [es]
        exact ⟨vl3, rfl, n3, n4, e4⟩
    have flen := bd.flen
    have llen := bd.llen
    have wflen := bw.flen
    have wllen := bw.llen
    -- the if's two ways, then the conditional's two ways
    have rest : ∀ (H3 : Hp) (vf3 : Addr), Same H2 H3 → vf3 ≠ pl → vf3 ≠ fl → H3 vf3 = some (.lst (natL (if (st i).e then joined (st i).f (walkM c (st i).F).f else (st i).f))) → _ := fun H3 vf3 s3 n1 n2 e3 => tail H3 vf3 (.of s3) s3 n1 n2 e3
    refine ⟨_, rfl, _, rfl, ?_⟩
    cases hee : (st i).e with
    | true =>
      refine iteT ?_
      refine ⟨_, rfl, _, rfl, r, _, _, _, rfl, rfl, SqT.of hr2, atI_nat (j := 1) rfl, ?_⟩
      refine ⟨af, bf, _, _, rfl, af3', bf3', by omega, fun H3 r3 s3 n3 e3 => ?_⟩
      have hr3 := s3 _ _ hr2
      have nn := LN.ne_new hP2' n3
      refine ⟨_, rfl, r, _, _, _, rfl, rfl, SqT.of hr3, atI_nat (j := 0) rfl, _, rfl, ?_⟩
      cases hwe : (walkM c (st i).F).e with
      | true =>
        refine iteT ?_
        refine ⟨_, rfl, _, rfl, r, _, _, _, rfl, rfl, SqT.of hr3, atI_nat (j := 2) rfl, ?_⟩
        refine ⟨al, bl', _, _, rfl, s3 _ _ al3', s3 _ _ bl3', by omega, fun H4 r4 s4 n4 e4 => ?_⟩
        have nn4 := LN.ne_new (hP2'.same s3) n4
        refine ⟨_, rfl, _, rfl, iteT ?_⟩
        refine ⟨_, rfl, r, _, _, _, rfl, rfl, SqT.of (s4 _ _ hr3), atI_nat (j := 0) rfl, ?_⟩
        rw [hwe]
        have z := rest H3 r3 s3 nn.1 nn.2 (by rw [hee, if_pos rfl]; exact e3) r4 H4 s4 nn4.1 nn4.2 (by rw [hwe, if_pos rfl]; exact e4)
        rw [hee, hwe] at z
        exact z
      | false =>
        refine iteF ?_
        refine ⟨_, rfl, r, _, _, _, rfl, rfl, SqT.of hr3, atI_nat (j := 2) rfl, ?_⟩
        refine ⟨_, rfl, _, rfl, iteT ?_⟩
        refine ⟨_, rfl, r, _, _, _, rfl, rfl, SqT.of hr3, atI_nat (j := 0) rfl, ?_⟩
        rw [hwe]
        have z := rest H3 r3 s3 nn.1 nn.2 (by rw [hee, if_pos rfl]; exact e3) bl' H3 (Same.refl _) bl1 bl2 (by rw [hwe, if_neg (by decide)]; exact s3 _ _ bl3')
        rw [hee, hwe] at z
        exact z
    | false =>
      refine iteF ?_
      refine ⟨_, rfl, r, _, _, _, rfl, rfl, SqT.of hr2, atI_nat (j := 0) rfl, _, rfl, ?_⟩
      cases hwe : (walkM c (st i).F).e with
      | true =>
        refine iteT ?_
        refine ⟨_, rfl, _, rfl, r, _, _, _, rfl, rfl, SqT.of hr2, atI_nat (j := 2) rfl, ?_⟩
        refine ⟨al, bl', _, _, rfl, al3', bl3', by omega, fun H4 r4 s4 n4 e4 => ?_⟩
        have nn4 := LN.ne_new hP2' n4
        refine ⟨_, rfl, _, rfl, iteF ?_⟩
        have z := rest H2 af (Same.refl _) af1 af2 (by rw [hee, if_neg (by decide)]; exact af3') r4 H4 s4 nn4.1 nn4.2 (by rw [hwe, if_pos rfl]; exact e4)
        rw [hee, hwe] at z
        exact z
      | false =>
        refine iteF ?_
        refine ⟨_, rfl, r, _, _, _, rfl, rfl, SqT.of hr2, atI_nat (j := 2) rfl, ?_⟩
        refine ⟨_, rfl, _, rfl, iteF ?_⟩
        have z := rest H2 af (Same.refl _) af1 af2 (by rw [hee, if_neg (by decide)]; exact af3') bl' H2 (Same.refl _) bl1 bl2 (by rw [hwe, if_neg (by decide)]; exact bl3')
        rw [hee, hwe] at z
        exact z
  · rintro σ H' ⟨vf, vl, v5, v6, rfl, b, hP', hf, hl, bd⟩
    refine ⟨_, rfl, _, rfl, _, rfl, line_big (by show 3 ≤ _; decide), fun r hr' => ?_⟩
    have s3 := same_new hr' (.tup [.bl (st 2).e, vf, vl])
    have e2 : st 2 = walkM (.sq ta tb) F0 := by
      show stepS (stepS ⟨true, [], [], F0⟩ ta) tb = walkM (.sq ta tb) F0
      have e1 : stepS ⟨true, [], [], F0⟩ ta = walkM ta F0 := by
        unfold stepS
        simp only [joined_nil, link, List.foldl_nil, Bool.true_and, if_true]
        cases h : (walkM ta F0).e <;> simp [← h]
      rw [e1]
      rfl
    have ep : ps 2 = qs ++ (Tr.sq ta tb).leaves := by
      show (qs ++ ta.leaves) ++ tb.leaves = qs ++ (ta.leaves ++ tb.leaves)
      rw [List.append_assoc]
    have hP3 := hP'.same s3
    refine q _ r vf vl (b.trans (.of s3)) ?_ ?_ ?_ ?_
    · rw [← e2, ← ep]; exact hP3
    · rw [upd_same, ← e2]; rfl
    · rw [← e2]; exact hf.keep (.of s3)
    · rw [← e2]; exact hl.keep (.of s3)
end
end Gk
/-! ### walk and its kinds, further -/
namespace Gk
open PySem L2
theorem so_an : decide (V.str "some" = V.str "any") = false := by decide +kernel
theorem an_an : decide (V.str "any" = V.str "any") = true := by decide +kernel
/-- the table of the kinds -/
structure Tab (K : PySem.W.Frag) (w : World) (mg : Str → Option Value) (d fPl fSq fCh fRe fMa : Addr) : Prop where
  mgW : mg "WALKS" = some (.ref d)
  pl : KDct K w d "place" (.ref fPl)
  sq : KDct K w d "sequence" (.ref fSq)
  ch : KDct K w d "choice" (.ref fCh)
  an : KDct K w d "any" (.ref fRe)
  so : KDct K w d "some" (.ref fRe)
  ma : KDct K w d "maybe" (.ref fMa)
section
variable {P : Program} {w : World} {K : PySem.W.Frag} {mg : Str → Option Value} {base : Heap}
theorem scCh : FnScope ["places", "choice", "empty", "firsts", "lasts", "item", "found"] ["places", "choice"] (defScope sWCh) := ⟨rfl, rfl, rfl, by decide +kernel, rfl, by decide +kernel, by decide +kernel⟩
theorem ok_wch {f C g j : Addr} {fd gd jd : FuncData} {lv d : Nat} (F : Fun K "walk_choice" "walk_choice" sWCh f fd) (T : Txt K mg C)
    (GW : FnOk P w K mg base CX0 (lv + 2) g gd ["places", "choice"] (spWk C fun t => t.depth < d)) (bW : Binds K gd ["places", "choice"] []) (kW : PySem.W.keepIn K (.ref g) = true) (mW : mg "walk" = some (.ref g))
    (GJ : FnOk P w K mg base CX0 1 j jd ["one", "other"] spJoined) (bJ : Binds K jd ["one", "other"] []) (kJ : PySem.W.keepIn K (.ref j) = true) (mJ : mg "joined" = some (.ref j)) :
    FnOk P w K mg base CX0 (lv + 3) f fd ["places", "choice"] (spWk C fun t => ∃ a b, t = .ch a b ∧ a.depth < d ∧ b.depth < d) := by
  refine F.ok scCh (fun vs H Q E h => ?_) (fun cdv A outer s H vs Q E hr h => ?_)
  · obtain ⟨p, pl, fl, qs, F, t, v, rfl, _⟩ := h
    rfl
  obtain ⟨p, pl, fl, qs, F0, t, v, rfl, hP, hT, ⟨ta, tb, rfl, da, db⟩, hlen, wf, hsz, q⟩ := h
  obtain ⟨ca, ci, vx, vy, rfl, hca, hci, hTx, hTy⟩ := hT
  refine ⟨_, pss_cons (ps_set (i := 2) scCh.nd rfl (Or.inl rfl) pe_bl) (pss_cons (ps_set (i := 3) scCh.nd rfl (Or.inl rfl) (pe_lst pa_nil)) (pss_cons (ps_set (i := 4) scCh.nd rfl (Or.inl rfl) (pe_lst pa_nil))
    (pss_cons (ps_for PassesOwn.never rfl (pi_tup (pe_ix ix_tup (pv 1) pe_int (fun _ _ => rfl))) (pg_name (i := 5) scCh.nd rfl (Or.inl rfl))
      (pss_cons (ps_set (i := 6) scCh.nd rfl (Or.inl rfl) (pe_call GW hr rfl mW kW bW .nil pass0 (pa_cons (pv 0) (pa_cons (pv 5) pa_nil))))
      (pss_cons (ps_set (i := 2) scCh.nd rfl (Or.inl rfl) (pe_or (pv 2) (pe_one (pe_ix ix_tup (pv 6) pe_int (fun _ _ => rfl)))))
      (pss_cons (ps_set (i := 3) scCh.nd rfl (Or.inl rfl) (pe_call GJ (hr.mono (by omega)) rfl mJ kJ bJ .nil pass0 (pa_cons (pv 3) (pa_cons (pe_ix ix_tup (pv 6) pe_int (fun _ _ => rfl)) pa_nil))))
      (pss_one (ps_set (i := 4) scCh.nd rfl (Or.inl rfl) (pe_call GJ (hr.mono (by omega)) rfl mJ kJ bJ .nil pass0 (pa_cons (pv 4) (pa_cons (pe_ix ix_tup (pv 6) pe_int (fun _ _ => rfl)) pa_nil)))))))))
    (pss_one (ps_ret (pe_tup (pa_cons (pv 2) (pa_cons (pv 3) (pa_cons (pv 4) pa_nil))))))))), ?_⟩
  refine ⟨Nat.zero_le _, fun f0 hf0 => ⟨Nat.zero_le _, fun l0 hl0 => ?_⟩⟩
  have s1 := same_new hf0 (.lst [])
  have s2 := same_new hl0 (.lst [])
  have hP2 := (hP.same s1).same s2
  have nf := LN.ne_new hP hf0
  have nl := LN.ne_new (hP.same s1) hl0
  have sz : qs.length + (ta.size + tb.size) ≤ 900 := hsz
  let st : Nat → Res := fun i => match i with
    | 0 => ⟨false, [], [], F0⟩
    | 1 => stepC ⟨false, [], [], F0⟩ ta
    | _ => stepC (stepC ⟨false, [], [], F0⟩ ta) tb
  let ps : Nat → List Pl := fun i => match i with
    | 0 => qs
    | 1 => qs ++ ta.leaves
    | _ => (qs ++ ta.leaves) ++ tb.leaves
  have step : ∀ i x, ([vx, vy] : List V)[i]? = some x → ∃ c, TreeAt H c x ∧ c.depth < d ∧ st (i + 1) = stepC (st i) c ∧ ps (i + 1) = ps i ++ c.leaves ∧ (ps i).length + c.size ≤ 900 := fun i x hx => by
    match i, hx with
    | 0, hx => cases hx; exact ⟨ta, hTx, da, rfl, rfl, by show qs.length + _ ≤ _; omega⟩
    | 1, hx => cases hx; exact ⟨tb, hTy, db, rfl, rfl, by show (qs ++ ta.leaves).length + _ ≤ _; rw [List.length_append, leaves_length]; omega⟩
    | n + 2, hx => simp at hx
  refine ⟨_, rfl, ca, _, _, _, rfl, rfl, SqT.of (s2 _ _ (s1 _ _ hca)), atI_nat (j := 1) rfl, ci, rfl, ⟨_, SqT.of (s2 _ _ (s1 _ _ hci))⟩, ?_⟩
  refine for_tup (K := K) (a := ci) (xs := [vx, vy]) (fun i σ H' => ∃ (vf vl : V) (v5 v6 : Option V), σ = [some (.ref p), some (.ref ca), some (.bl (st i).e), some vf, some vl, v5, v6] ∧ But2 pl fl H H' ∧ PlacesAt C H' p pl fl (ps i) (st i).F ∧
      LN H' pl fl (st i).f vf ∧ LN H' pl fl (st i).l vl ∧ Bnd (st i) (ps i)) ?_ ?_ ?_ ?_
  · refine ⟨.ref f0, .ref l0, none, none, rfl, (But2.of s1).trans (But2.of s2), hP2, ⟨f0, rfl, nf.1, nf.2, s2 _ _ upd_same⟩, ⟨l0, rfl, nl.1, nl.2, upd_same⟩, ⟨hlen, wf, List.nodup_nil, (fun x hx => nomatch hx), List.nodup_nil, (fun x hx => nomatch hx)⟩⟩
  · rintro i σ H' _ ⟨_, _, _, _, _, b, _⟩
    exact SqT.of (hP.tups b _ _ hci)
  · rintro i x σ H' hx ⟨vf, vl, v5, v6, rfl, b, hP', hf, hl, bd⟩
    obtain ⟨c, hTc, dc, es, ep, hc⟩ := step i x hx
    have bdn : Bnd (st (i + 1)) (ps (i + 1)) := by rw [es, ep]; exact bd.cho hc
    have bw := Bnd.walk bd.len bd.wf hc
    have wk := walk_ok c (st i).F
    have wl := wk.len
    have bl := bd.len
    have flen := bd.flen
    have llen := bd.llen
    have wflen := bw.flen
    have wllen := bw.llen
    refine ⟨_, rfl, _, rfl, p, pl, fl, ps i, (st i).F, c, x, rfl, hP', hTc.keep (hP.tups b), dc, bd.len, bd.wf, hc, fun H1 r wf1 wl1 b1 hP1 hr1 hf1 hl1 => ?_⟩
    obtain ⟨af, rfl, af1, af2, af3⟩ := hf
    obtain ⟨al, rfl, al1, al2, al3⟩ := hl
    obtain ⟨bf, rfl, bf1, bf2, bf3⟩ := hf1
    obtain ⟨bl', rfl, bl1, bl2, bl3⟩ := hl1
    have af3' := b1 _ _ af1 af2 af3
    have al3' := b1 _ _ al1 al2 al3
    refine ⟨_, rfl, _, rfl, ?_⟩
    have go : ∀ (e' : Bool), e' = ((st i).e || (walkM c (st i).F).e) → ∀ (H3 : Hp) (f3 : Addr), Same H1 H3 → H1 f3 = none → H3 f3 = some (.lst (natL (joined (st i).f (walkM c (st i).F).f))) → ∀ (H4 : Hp) (l4 : Addr), Same H3 H4 → H3 l4 = none → H4 l4 = some (.lst (natL (joined (st i).l (walkM c (st i).F).l))) →
        ∃ (vf vl : V) (v5 v6 : Option V), ([some (.ref p), some (.ref ca), some (.bl e'), some (.ref f3), some (.ref l4), some x, some (.ref r)] : List (Option V)) = [some (.ref p), some (.ref ca), some (.bl (st (i + 1)).e), some vf, some vl, v5, v6] ∧ But2 pl fl H H4 ∧ PlacesAt C H4 p pl fl (ps (i + 1)) (st (i + 1)).F ∧
          LN H4 pl fl (st (i + 1)).f vf ∧ LN H4 pl fl (st (i + 1)).l vl ∧ Bnd (st (i + 1)) (ps (i + 1)) := fun e' he' H3 f3 s3 n3 e3 H4 l4 s4 n4 e4 => by
      have nn3 := LN.ne_new hP1 n3
      have nn4 := LN.ne_new (hP1.same s3) n4
      refine ⟨.ref f3, .ref l4, some x, some (.ref r), by rw [es, he']; rfl, b.trans (b1.trans ((But2.of s3).trans (.of s4))), ?_, ?_, ?_, bdn⟩
      · rw [es, ep]
        exact (hP1.same s3).same s4
      · rw [es]
        exact ⟨f3, rfl, nn3.1, nn3.2, s4 _ _ e3⟩
      · rw [es]
        exact ⟨l4, rfl, nn4.1, nn4.2, e4⟩
    cases hee : (st i).e with
    | true =>
      refine iteT ?_
      refine ⟨_, rfl, _, rfl, r, _, _, _, rfl, rfl, SqT.of hr1, atI_nat (j := 1) rfl, af, bf, _, _, rfl, af3', bf3, by omega, fun H3 f3 s3 n3 e3 => ?_⟩
      refine ⟨_, rfl, _, rfl, r, _, _, _, rfl, rfl, SqT.of (s3 _ _ hr1), atI_nat (j := 2) rfl, al, bl', _, _, rfl, s3 _ _ al3', s3 _ _ bl3, by omega, fun H4 l4 s4 n4 e4 => ?_⟩
      exact go true (by rw [hee]; rfl) H3 f3 s3 n3 e3 H4 l4 s4 n4 e4
    | false =>
      refine iteF ?_
      refine ⟨_, rfl, r, _, _, _, rfl, rfl, SqT.of hr1, atI_nat (j := 0) rfl, ?_⟩
      refine ⟨_, rfl, _, rfl, r, _, _, _, rfl, rfl, SqT.of hr1, atI_nat (j := 1) rfl, af, bf, _, _, rfl, af3', bf3, by omega, fun H3 f3 s3 n3 e3 => ?_⟩
      refine ⟨_, rfl, _, rfl, r, _, _, _, rfl, rfl, SqT.of (s3 _ _ hr1), atI_nat (j := 2) rfl, al, bl', _, _, rfl, s3 _ _ al3', s3 _ _ bl3, by omega, fun H4 l4 s4 n4 e4 => ?_⟩
      exact go _ (by rw [hee]; rfl) H3 f3 s3 n3 e3 H4 l4 s4 n4 e4
  · rintro σ H' ⟨vf, vl, v5, v6, rfl, b, hP', hf, hl, bd⟩
    refine ⟨_, rfl, _, rfl, _, rfl, line_big (by show 3 ≤ _; decide), fun r hr' => ?_⟩
    have s3 := same_new hr' (.tup [.bl (st 2).e, vf, vl])
    have e2 : st 2 = walkM (.ch ta tb) F0 := by
      show stepC (stepC ⟨false, [], [], F0⟩ ta) tb = walkM (.ch ta tb) F0
      have e1 : stepC ⟨false, [], [], F0⟩ ta = walkM ta F0 := by
        unfold stepC
        simp only [joined_nil, Bool.false_or]
      rw [e1]
      rfl
    have ep : ps 2 = qs ++ (Tr.ch ta tb).leaves := by
      show (qs ++ ta.leaves) ++ tb.leaves = qs ++ (ta.leaves ++ tb.leaves)
      rw [List.append_assoc]
    have hP3 := hP'.same s3
    refine q _ r vf vl (b.trans (.of s3)) ?_ ?_ ?_ ?_
    · rw [← e2, ← ep]; exact hP3
    · rw [upd_same, ← e2]; rfl
    · rw [← e2]; exact hf.keep (.of s3)
    · rw [← e2]; exact hl.keep (.of s3)
theorem scRe : FnScope ["places", "choice", "found"] ["places", "choice"] (defScope sWRe) := ⟨rfl, rfl, rfl, by decide +kernel, rfl, by decide +kernel, by decide +kernel⟩
theorem ok_wre {f C g k : Addr} {fd gd kd : FuncData} {lv d : Nat} (F : Fun K "walk_repeated" "walk_repeated" sWRe f fd) (T : Txt K mg C)
    (GW : FnOk P w K mg base CX0 (lv + 2) g gd ["places", "choice"] (spWk C fun t => t.depth < d)) (bW : Binds K gd ["places", "choice"] []) (kW : PySem.W.keepIn K (.ref g) = true) (mW : mg "walk" = some (.ref g))
    (GL : FnOk P w K mg base CX0 2 k kd ["self", "lasts", "firsts"] (spLink C)) (bL : Binds K kd ["self", "lasts", "firsts"] []) (mL : Meth K C "link" k) :
    FnOk P w K mg base CX0 (lv + 3) f fd ["places", "choice"] (spWk C fun t => ∃ a, (t = .an a ∨ t = .so a) ∧ a.depth < d) := by
  refine F.ok scRe (fun vs H Q E h => ?_) (fun cdv A outer s H vs Q E hr h => ?_)
  · obtain ⟨p, pl, fl, qs, F, t, v, rfl, _⟩ := h
    rfl
  obtain ⟨p, pl, fl, qs, F0, t, v, rfl, hP, hT, ⟨ta, hta, da⟩, hlen, wf, hsz, q⟩ := h
  obtain ⟨ca, vx, nm, rfl, hca, hTx, hnm⟩ : ∃ (ca : Addr) (vx : V) (nm : Str), v = .ref ca ∧ H ca = some (.tup [.str nm, vx]) ∧ TreeAt H ta vx ∧ ((t = .an ta ∧ nm = "any") ∨ (t = .so ta ∧ nm = "some")) := by
    rcases hta with rfl | rfl
    · obtain ⟨ca, vx, h1, h2, h3⟩ := hT
      exact ⟨ca, vx, _, h1, h2, h3, .inl ⟨rfl, rfl⟩⟩
    · obtain ⟨ca, vx, h1, h2, h3⟩ := hT
      exact ⟨ca, vx, _, h1, h2, h3, .inr ⟨rfl, rfl⟩⟩
  have hsz' : qs.length + ta.size ≤ 900 := by rcases hta with rfl | rfl <;> exact hsz
  refine ⟨_, pss_cons (ps_set (i := 2) scRe.nd rfl (Or.inl rfl) (pe_call GW hr rfl mW kW bW .nil pass0 (pa_cons (pv 0) (pa_cons (pe_ix ix_tup (pv 1) pe_int (fun _ _ => rfl)) pa_nil))))
    (pss_cons (ps_expr (pe_meth (pv 0) T.cl mL GL (hr.mono (by omega)) bL .nil pass0 (pa_cons (pe_ix ix_tup (pv 2) pe_int (fun _ _ => rfl)) (pa_cons (pe_ix ix_tup (pv 2) pe_int (fun _ _ => rfl)) pa_nil))))
    (pss_one (ps_ret (pe_tup (pa_cons (pe_or (pe_ix ix_tup (pv 2) pe_int (fun _ _ => rfl)) (pe_one (pe_cmpR op_eq (pe_ix ix_tup (pv 1) pe_int (fun _ _ => rfl)) pe_str (nomark _))))
      (pa_cons (pe_ix ix_tup (pv 2) pe_int (fun _ _ => rfl)) (pa_cons (pe_ix ix_tup (pv 2) pe_int (fun _ _ => rfl)) pa_nil))))))), ?_⟩
  have bw := Bnd.walk hlen wf hsz'
  have wk := walk_ok ta F0
  have wl := wk.len
  refine ⟨_, rfl, _, rfl, ca, _, _, _, rfl, rfl, SqT.of hca, atI_nat (j := 1) rfl, p, pl, fl, qs, F0, ta, vx, rfl, hP, hTx, da, hlen, wf, hsz', fun H1 r wf1 wl1 b1 hP1 hr1 hf1 hl1 => ?_⟩
  obtain ⟨dx1, ho1⟩ := hP1.obj
  refine ⟨_, rfl, p, dx1, _, rfl, ho1, pf_noLink _ _, _, rfl, r, _, _, _, rfl, rfl, SqT.of hr1, atI_nat (j := 2) rfl, _, rfl, r, _, _, _, rfl, rfl, SqT.of hr1, atI_nat (j := 1) rfl, ?_⟩
  refine ⟨p, pl, fl, _, _, (walkM ta F0).l, (walkM ta F0).f, wl1, wf1, 1000, rfl, hP1, hl1, hf1, Nat.le_refl _, bw.wf, bw.fn, (fun x hx => by have := bw.fb x hx; omega), bw.lb, fun H2 b2 hP2 => ?_⟩
  have hr2 := hP1.tups b2 _ _ hr1
  have hca2 := hP1.tups b2 _ _ (hP.tups b1 _ _ hca)
  have hf2 := hf1.keep b2
  have hl2 := hl1.keep b2
  -- the answer
  have fin : ∀ (e' : Bool), e' = (walkM t F0).e → ∀ r' : Addr, H2 r' = none → Q (.ref r') (upd H2 r' (.tup [.bl e', wf1, wl1])) := fun e' he r' hr' => by
    have s3 := same_new hr' (.tup [.bl e', wf1, wl1])
    have hP3 := hP2.same s3
    have eF : (walkM t F0).F = link (walkM ta F0).F (walkM ta F0).l (walkM ta F0).f := by rcases hta with rfl | rfl <;> rfl
    have ef : (walkM t F0).f = (walkM ta F0).f := by rcases hta with rfl | rfl <;> rfl
    have el : (walkM t F0).l = (walkM ta F0).l := by rcases hta with rfl | rfl <;> rfl
    have ep : t.leaves = ta.leaves := by rcases hta with rfl | rfl <;> rfl
    refine q _ r' wf1 wl1 (b1.trans (b2.trans (.of s3))) ?_ ?_ ?_ ?_
    · rw [eF, ep]; exact hP3
    · rw [upd_same, he]
    · rw [ef]; exact hf2.keep (.of s3)
    · rw [el]; exact hl2.keep (.of s3)
  refine ⟨_, rfl, r, _, _, _, rfl, rfl, SqT.of hr2, atI_nat (j := 0) rfl, _, rfl, ?_⟩
  cases he : (walkM ta F0).e with
  | true =>
    refine iteT ?_
    refine ⟨_, rfl, r, _, _, _, rfl, rfl, SqT.of hr2, atI_nat (j := 1) rfl, _, rfl, r, _, _, _, rfl, rfl, SqT.of hr2, atI_nat (j := 2) rfl, line_big (by show 3 ≤ _; decide), fin true ?_⟩
    rcases hta with rfl | rfl
    · rfl
    · exact he.symm
  | false =>
    refine iteF ?_
    refine ⟨_, rfl, ca, _, _, _, rfl, rfl, SqT.of hca2, atI_nat (j := 0) rfl, rfl, ?_⟩
    refine ⟨_, rfl, r, _, _, _, rfl, rfl, SqT.of hr2, atI_nat (j := 1) rfl, _, rfl, r, _, _, _, rfl, rfl, SqT.of hr2, atI_nat (j := 2) rfl, line_big (by show 3 ≤ _; decide), fin _ ?_⟩
    rcases hnm with ⟨rfl, rfl⟩ | ⟨rfl, rfl⟩
    · exact an_an
    · exact so_an.trans he.symm
theorem scMa : FnScope ["places", "choice", "found"] ["places", "choice"] (defScope sWMa) := ⟨rfl, rfl, rfl, by decide +kernel, rfl, by decide +kernel, by decide +kernel⟩
theorem ok_wma {f C g : Addr} {fd gd : FuncData} {lv d : Nat} (F : Fun K "walk_maybe" "walk_maybe" sWMa f fd)
    (GW : FnOk P w K mg base CX0 (lv + 2) g gd ["places", "choice"] (spWk C fun t => t.depth < d)) (bW : Binds K gd ["places", "choice"] []) (kW : PySem.W.keepIn K (.ref g) = true) (mW : mg "walk" = some (.ref g)) :
    FnOk P w K mg base CX0 (lv + 3) f fd ["places", "choice"] (spWk C fun t => ∃ a, t = .ma a ∧ a.depth < d) := by
  refine F.ok scMa (fun vs H Q E h => ?_) (fun cdv A outer s H vs Q E hr h => ?_)
  · obtain ⟨p, pl, fl, qs, F, t, v, rfl, _⟩ := h
    rfl
  obtain ⟨p, pl, fl, qs, F0, t, v, rfl, hP, hT, ⟨ta, rfl, da⟩, hlen, wf, hsz, q⟩ := h
  obtain ⟨ca, vx, rfl, hca, hTx⟩ := hT
  refine ⟨_, pss_cons (ps_set (i := 2) scMa.nd rfl (Or.inl rfl) (pe_call GW hr rfl mW kW bW .nil pass0 (pa_cons (pv 0) (pa_cons (pe_ix ix_tup (pv 1) pe_int (fun _ _ => rfl)) pa_nil))))
    (pss_one (ps_ret (pe_tup (pa_cons pe_bl (pa_cons (pe_ix ix_tup (pv 2) pe_int (fun _ _ => rfl)) (pa_cons (pe_ix ix_tup (pv 2) pe_int (fun _ _ => rfl)) pa_nil)))))), ?_⟩
  refine ⟨_, rfl, _, rfl, ca, _, _, _, rfl, rfl, SqT.of hca, atI_nat (j := 1) rfl, p, pl, fl, qs, F0, ta, vx, rfl, hP, hTx, da, hlen, wf, hsz, fun H1 r wf1 wl1 b1 hP1 hr1 hf1 hl1 => ?_⟩
  refine ⟨_, rfl, r, _, _, _, rfl, rfl, SqT.of hr1, atI_nat (j := 1) rfl, _, rfl, r, _, _, _, rfl, rfl, SqT.of hr1, atI_nat (j := 2) rfl, line_big (by show 3 ≤ _; decide), fun r' hr' => ?_⟩
  have s3 := same_new hr' (.tup [.bl true, wf1, wl1])
  exact q _ r' wf1 wl1 (b1.trans (.of s3)) (hP1.same s3) upd_same (hf1.keep (.of s3)) (hl1.keep (.of s3))
theorem scW : FnScope ["places", "choice"] ["places", "choice"] (defScope sWalk) := ⟨rfl, rfl, rfl, by decide +kernel, rfl, by decide +kernel, by decide +kernel⟩
theorem ok_walk {f C dW fPl fSq fCh fRe fMa : Addr} {fd : FuncData} {lv d : Nat} (F : Fun K "walk" "walk" sWalk f fd) (T : Tab K w mg dW fPl fSq fCh fRe fMa)
    (hPl : HeldE P w K mg base (lv + 3) fPl (spWk C fun t => ∃ p l m c, t = .pl p l m c)) (hSq : HeldE P w K mg base (lv + 3) fSq (spWk C fun t => ∃ a b, t = .sq a b ∧ a.depth < d ∧ b.depth < d))
    (hCh : HeldE P w K mg base (lv + 3) fCh (spWk C fun t => ∃ a b, t = .ch a b ∧ a.depth < d ∧ b.depth < d)) (hRe : HeldE P w K mg base (lv + 3) fRe (spWk C fun t => ∃ a, (t = .an a ∨ t = .so a) ∧ a.depth < d))
    (hMa : HeldE P w K mg base (lv + 3) fMa (spWk C fun t => ∃ a, t = .ma a ∧ a.depth < d)) :
    FnOk P w K mg base CX0 (lv + 4) f fd ["places", "choice"] (spWk C fun t => t.depth < d + 1) := by
  refine F.ok scW (fun vs H Q E h => ?_) (fun cdv A outer s H vs Q E hr h => ?_)
  · obtain ⟨p, pl, fl, qs, F, t, v, rfl, _⟩ := h
    rfl
  obtain ⟨p, pl, fl, qs, F0, t, v, rfl, hP, hT, hd, hlen, wf, hsz, q⟩ := h
  refine ⟨_, pss_one (ps_ret (pe_callE hr (pe_ix ix_kdict (pe_glob (v := .ref dW) rfl T.mgW rfl) (pe_ix ix_tup (pv 1) pe_int (fun _ _ => rfl)) (fun _ _ => rfl)) (pa_cons (pv 0) (pa_cons (pv 1) pa_nil)))), ?_⟩
  refine ⟨_, rfl, ?_⟩
  cases t with
  | pl pp ll mm cc =>
    obtain ⟨ca, rfl, hca⟩ := id hT
    exact ⟨ca, _, _, _, rfl, rfl, SqT.of hca, atI_nat (j := 0) rfl, dW, _, _, rfl, rfl, T.pl, fPl, _, rfl, hPl, _, rfl, _, rfl, p, pl, fl, qs, F0, _, _, rfl, hP, hT, ⟨pp, ll, mm, cc, rfl⟩, hlen, wf, hsz, q⟩
  | ch a b =>
    have hd' : max a.depth b.depth + 1 < d + 1 := hd
    obtain ⟨ca, ci, vx, vy, rfl, hca, hci, h3, h4⟩ := id hT
    exact ⟨ca, _, _, _, rfl, rfl, SqT.of hca, atI_nat (j := 0) rfl, dW, _, _, rfl, rfl, T.ch, fCh, _, rfl, hCh, _, rfl, _, rfl, p, pl, fl, qs, F0, _, _, rfl, hP, hT, ⟨a, b, rfl, by omega, by omega⟩, hlen, wf, hsz, q⟩
  | sq a b =>
    have hd' : max a.depth b.depth + 1 < d + 1 := hd
    obtain ⟨ca, ci, vx, vy, rfl, hca, hci, h3, h4⟩ := id hT
    exact ⟨ca, _, _, _, rfl, rfl, SqT.of hca, atI_nat (j := 0) rfl, dW, _, _, rfl, rfl, T.sq, fSq, _, rfl, hSq, _, rfl, _, rfl, p, pl, fl, qs, F0, _, _, rfl, hP, hT, ⟨a, b, rfl, by omega, by omega⟩, hlen, wf, hsz, q⟩
  | an a =>
    have hd' : a.depth + 1 < d + 1 := hd
    obtain ⟨ca, vx, rfl, hca, h3⟩ := id hT
    exact ⟨ca, _, _, _, rfl, rfl, SqT.of hca, atI_nat (j := 0) rfl, dW, _, _, rfl, rfl, T.an, fRe, _, rfl, hRe, _, rfl, _, rfl, p, pl, fl, qs, F0, _, _, rfl, hP, hT, ⟨a, .inl rfl, by omega⟩, hlen, wf, hsz, q⟩
  | so a =>
    have hd' : a.depth + 1 < d + 1 := hd
    obtain ⟨ca, vx, rfl, hca, h3⟩ := id hT
    exact ⟨ca, _, _, _, rfl, rfl, SqT.of hca, atI_nat (j := 0) rfl, dW, _, _, rfl, rfl, T.so, fRe, _, rfl, hRe, _, rfl, _, rfl, p, pl, fl, qs, F0, _, _, rfl, hP, hT, ⟨a, .inr rfl, by omega⟩, hlen, wf, hsz, q⟩
  | ma a =>
    have hd' : a.depth + 1 < d + 1 := hd
    obtain ⟨ca, vx, rfl, hca, h3⟩ := id hT
    exact ⟨ca, _, _, _, rfl, rfl, SqT.of hca, atI_nat (j := 0) rfl, dW, _, _, rfl, rfl, T.ma, fMa, _, rfl, hMa, _, rfl, _, rfl, p, pl, fl, qs, F0, _, _, rfl, hP, hT, ⟨a, rfl, by omega⟩, hlen, wf, hsz, q⟩
/-- the walk to any depth -/
theorem walk_all {C fW fPl fSq fCh fRe fMa fA fL fJ dW : Addr} {dWk dPl dSq dCh dRe dMa dA dL dJ : FuncData} (T : Txt K mg C) (Tb : Tab K w mg dW fPl fSq fCh fRe fMa)
    (FW : Fun K "walk" "walk" sWalk fW dWk) (bW : Binds K dWk ["places", "choice"] []) (mW : mg "walk" = some (.ref fW))
    (FPl : Fun K "walk_place" "walk_place" sWPl fPl dPl) (bPl : Binds K dPl ["places", "choice"] []) (FSq : Fun K "walk_sequence" "walk_sequence" sWSq fSq dSq) (bSq : Binds K dSq ["places", "choice"] [])
    (FCh : Fun K "walk_choice" "walk_choice" sWCh fCh dCh) (bCh : Binds K dCh ["places", "choice"] []) (FRe : Fun K "walk_repeated" "walk_repeated" sWRe fRe dRe) (bRe : Binds K dRe ["places", "choice"] [])
    (FMa : Fun K "walk_maybe" "walk_maybe" sWMa fMa dMa) (bMa : Binds K dMa ["places", "choice"] [])
    (GA : FnOk P w K mg base CX0 1 fA dA ["self", "place"] (spAdd C)) (bA : Binds K dA ["self", "place"] []) (mA : Meth K C "add" fA)
    (GJ : FnOk P w K mg base CX0 1 fJ dJ ["one", "other"] spJoined) (bJ : Binds K dJ ["one", "other"] []) (kJ : PySem.W.keepIn K (.ref fJ) = true) (mJ : mg "joined" = some (.ref fJ))
    (GL : FnOk P w K mg base CX0 2 fL dL ["self", "lasts", "firsts"] (spLink C)) (bL : Binds K dL ["self", "lasts", "firsts"] []) (mL : Meth K C "link" fL) :
    ∀ d : Nat, FnOk P w K mg base CX0 (2 * d + 2) fW dWk ["places", "choice"] (spWk C fun t => t.depth < d)
  | 0 => by
    have no : ∀ vs H Q E, ¬ spWk C (fun t => t.depth < 0) vs H Q E := fun vs H Q E h => by
      obtain ⟨_, _, _, _, _, _, _, _, _, _, hd, _⟩ := h
      exact absurd hd (Nat.not_lt_zero _)
    exact ⟨fun vs H Q E h => absurd h (no vs H Q E), fun A outer s H args us vs Q E _ _ _ _ h => absurd h (no vs H Q E)⟩
  | d + 1 => by
    have ih := walk_all T Tb FW bW mW FPl bPl FSq bSq FCh bCh FRe bRe FMa bMa GA bA mA GJ bJ kJ mJ GL bL mL d
    have e : 2 * (d + 1) + 2 = 2 * d + 4 := by omega
    rw [e]
    exact ok_walk (lv := 2 * d) FW Tb ⟨⟨_, _, (ok_wpl FPl T GA bA mA).mono (by omega), FPl.kp, bPl⟩⟩ ⟨⟨_, _, ok_wsq FSq T ih bW FW.kp mW GJ bJ kJ mJ GL bL mL, FSq.kp, bSq⟩⟩ ⟨⟨_, _, ok_wch FCh T ih bW FW.kp mW GJ bJ kJ mJ, FCh.kp, bCh⟩⟩
      ⟨⟨_, _, ok_wre FRe T ih bW FW.kp mW GL bL mL, FRe.kp, bRe⟩⟩ ⟨⟨_, _, ok_wma FMa ih bW FW.kp mW, FMa.kp, bMa⟩⟩
end
end Gk
/-! ### data compared whole: the keys, the places -/
namespace Gk
open PySem L2
def keyD (q : Key) : PyData := .tuple [.bool q.1, .tuple (q.2.map fun n : Nat => PyData.int (n : Int))]
theorem ints_lay : ∀ ns : List Nat, PyData.canLayAll0 (ns.map fun n : Nat => PyData.int (n : Int)) = true
  | [] => by simp [PyData.canLayAll0]
  | n :: ns => by simp [PyData.canLayAll0, PyData.canLay0, ints_lay ns]
theorem ints_depth : ∀ ns : List Nat, PyData.depthAll (ns.map fun n : Nat => PyData.int (n : Int)) ≤ 1
  | [] => by simp [PyData.depthAll]
  | n :: ns => by
    have := ints_depth ns
    simp only [List.map_cons, PyData.depthAll, PyData.depth]
    omega
theorem ints_eqv : ∀ ns ms : List Nat, PyData.eqvAll (ns.map fun n : Nat => PyData.int (n : Int)) (ms.map fun n : Nat => PyData.int (n : Int)) = decide (ns = ms)
  | [], [] => by simp [PyData.eqvAll]
  | [], m :: ms => by simp [PyData.eqvAll]
  | n :: ns, [] => by simp [PyData.eqvAll]
  | n :: ns, m :: ms => by
    have ih := ints_eqv ns ms
    simp only [List.map_cons, PyData.eqvAll, PyData.eqv, ih]
    by_cases h : n = m
    · subst h
      simp
    · have : ((n : Int) == (m : Int)) = false := beq_eq_false_iff_ne.mpr (by omega)
      rw [this]
      simp [h]
theorem keyD_lay (q : Key) : (keyD q).canLay0 = true := by simp [keyD, PyData.canLay0, PyData.canLayAll0, ints_lay]
theorem keyD_depth (q : Key) : (keyD q).depth ≤ 3 := by
  have := ints_depth q.2
  simp only [keyD, PyData.depth, PyData.depthAll]
  omega
theorem keyD_eqv (q r : Key) : PyData.eqv (keyD q) (keyD r) = decide (q = r) := by
  obtain ⟨a, ns⟩ := q
  obtain ⟨b, ms⟩ := r
  simp only [keyD, PyData.eqv, PyData.eqvAll, ints_eqv]
  cases a <;> cases b <;> simp
theorem keyDs_lay : ∀ qs : List Key, PyData.canLayAll0 (qs.map keyD) = true
  | [] => by simp [PyData.canLayAll0]
  | q :: qs => by simp [PyData.canLayAll0, keyD_lay q, keyDs_lay qs]
theorem keyDs_depth : ∀ qs : List Key, PyData.depthAll (qs.map keyD) ≤ 3
  | [] => by simp [PyData.depthAll]
  | q :: qs => by
    have h1 := keyDs_depth qs
    have h2 := keyD_depth q
    simp only [List.map_cons, PyData.depthAll]
    omega
theorem shaped_of {d : PyData} (h1 : d.canLay0 = true) (h2 : d.depth ≤ 64) : SeqAt.shaped d = true := by
  show (d.canLay0 && decide (d.depth ≤ 64)) = true
  rw [Bool.and_eq_true]
  exact ⟨h1, decide_eq_true h2⟩
theorem keyD_shaped (q : Key) : SeqAt.shaped (keyD q) = true := shaped_of (keyD_lay q) (by have := keyD_depth q; omega)
theorem keyDs_shaped (qs : List Key) : SeqAt.shaped (.list (qs.map keyD)) = true := shaped_of (by simp only [PyData.canLay0]; exact keyDs_lay qs) (by have := keyDs_depth qs; simp only [PyData.depth]; omega)
theorem keyDs_any (q : Key) : ∀ qs : List Key, ((qs.map keyD).any fun z => PyData.eqv z (keyD q)) = decide (q ∈ qs)
  | [] => by simp
  | r :: qs => by
    rw [List.map_cons, List.any_cons, keyDs_any q qs, keyD_eqv]
    by_cases h : r = q
    · subst h; simp
    · have h' : ¬ q = r := fun e => h e.symm
      simp [h, h']
/-- a place as data -/
def plD (q : Pl) : PyData := .tuple [.str "place", .int q.1, .int q.2.1, .int q.2.2.1, .int (q.2.2.2 : Int)]
theorem plD_lay (q : Pl) : (plD q).canLay0 = true := by
  have : (PyData.str ("place" : Str)).canLay0 = true := by decide +kernel
  simp only [plD, PyData.canLay0, PyData.canLayAll0, Bool.and_true, Bool.true_and]
  exact this
theorem plD_depth (q : Pl) : (plD q).depth ≤ 3 := by
  simp only [plD, PyData.depth, PyData.depthAll]
  omega
theorem plDs_lay : ∀ qs : List Pl, PyData.canLayAll0 (qs.map plD) = true
  | [] => by simp [PyData.canLayAll0]
  | q :: qs => by simp [PyData.canLayAll0, plD_lay q, plDs_lay qs]
theorem plDs_depth : ∀ qs : List Pl, PyData.depthAll (qs.map plD) ≤ 3
  | [] => by simp [PyData.depthAll]
  | q :: qs => by
    have h1 := plDs_depth qs
    have h2 := plD_depth q
    simp only [List.map_cons, PyData.depthAll]
    omega
theorem plD_shaped (q : Pl) : SeqAt.shaped (plD q) = true := shaped_of (plD_lay q) (by have := plD_depth q; omega)
theorem plDs_shaped (qs : List Pl) : SeqAt.shaped (.list (qs.map plD)) = true := shaped_of (by simp only [PyData.canLay0]; exact plDs_lay qs) (by have := plDs_depth qs; simp only [PyData.depth]; omega)
theorem plDs_in {q : Pl} {qs : List Pl} (h : q ∈ qs) : ((qs.map plD).any fun z => PyData.eqv z (plD q)) = true := by
  rw [List.any_eq_true]
  exact ⟨plD q, List.mem_map.mpr ⟨q, h, rfl⟩, SeqAt.eqv_refl _ (plD_lay q)⟩
theorem All2.cons_inv {α : Type} {R : α → V → Prop} {x : α} {xs : List α} {vs : List V} (h : All2 R (x :: xs) vs) : ∃ v ws, vs = v :: ws ∧ R x v ∧ All2 R xs ws := by
  cases vs with
  | nil => have := h.1; simp at this
  | cons v ws => exact ⟨v, ws, rfl, h.2 0 x v rfl rfl, by have := h.1; simpa using this, fun i y w h1 h2 => h.2 (i + 1) y w (by simpa using h1) (by simpa using h2)⟩
theorem dpAll_of {α : Type} {R : α → V → Prop} {K : PySem.W.Frag} {H : Hp} {D : α → PyData} (k : ∀ x v, R x v → Dp K H v (D x)) : ∀ (xs : List α) (vs : List V), All2 R xs vs → DpAll K H vs (xs.map D)
  | [], vs, h => by
    have e : vs = [] := List.length_eq_zero_iff.mp h.1.symm
    rw [e]
    exact .nil
  | x :: xs, vs, h => by
    obtain ⟨v, ws, rfl, r, h'⟩ := h.cons_inv
    exact .cons (k x v r) (dpAll_of k xs ws h')
theorem natL_dp {K : PySem.W.Frag} {H : Hp} : ∀ ns : List Nat, DpAll K H (natL ns) (ns.map fun n : Nat => PyData.int (n : Int))
  | [] => .nil
  | n :: ns => .cons (.int _) (natL_dp ns)
/-- a key's tuple -/
def KeyRep (H : Hp) (q : Key) (v : V) : Prop := ∃ a b : Addr, v = .ref a ∧ H a = some (.tup [.bl q.1, .ref b]) ∧ H b = some (.tup (natL q.2))
theorem KeyRep.keep {H H' : Hp} (k : Tups H H') {q : Key} {v : V} : KeyRep H q v → KeyRep H' q v := fun ⟨a, b, h1, h2, h3⟩ => ⟨a, b, h1, k _ _ h2, k _ _ h3⟩
theorem KeyRep.dp {K : PySem.W.Frag} {H : Hp} {q : Key} {v : V} : KeyRep H q v → Dp K H v (keyD q) := fun ⟨a, b, h1, h2, h3⟩ => by
  subst h1
  exact .tup (SqT.of h2) (.cons (.bl _) (.cons (.tup (SqT.of h3) (natL_dp _)) .nil))
theorem PlAt.dp {K : PySem.W.Frag} {H : Hp} {q : Pl} {v : V} : PlAt H q v → Dp K H v (plD q) := fun ⟨a, h1, h2⟩ => by
  subst h1
  exact .tup (SqT.of h2) (.cons (.str _) (.cons (.int _) (.cons (.int _) (.cons (.int _) (.cons (.int _) .nil)))))
/-- a move's tuple -/
def MvRep (H : Hp) (m : Mv) (v : V) : Prop := ∃ a : Addr, v = .ref a ∧ H a = some (.tup [.int (m.1 : Int), .int (m.2.1 : Int), .int m.2.2.1, .int m.2.2.2.1, .int m.2.2.2.2.1, .int (m.2.2.2.2.2 : Int)])
theorem MvRep.keep {H H' : Hp} (k : Tups H H') {m : Mv} {v : V} : MvRep H m v → MvRep H' m v := fun ⟨a, h1, h2⟩ => ⟨a, h1, k _ _ h2⟩
/-- sorted numbers, back -/
def natI (ns : List Nat) : List Int := ns.map fun n : Nat => (n : Int)
theorem natL_natI (ns : List Nat) : natL ns = (natI ns).map V.int := by
  unfold natL natI
  rw [List.map_map]
  rfl
theorem sort_back {ns : List Nat} {zs : List Int} (h : zs.Perm (natI ns)) : ∃ ms : List Nat, zs = natI ms ∧ ms.Perm ns := by
  refine ⟨zs.map Int.toNat, ?_, ?_⟩
  · unfold natI
    rw [List.map_map]
    have : ∀ z ∈ zs, ((fun n : Nat => (n : Int)) ∘ Int.toNat) z = z := fun z hz => by
      obtain ⟨n, _, e⟩ := List.mem_map.mp (h.mem_iff.mp hz)
      show ((z.toNat : Nat) : Int) = z
      omega
    rw [List.map_congr_left this, List.map_id']
  · have := h.map Int.toNat
    have e : (natI ns).map Int.toNat = ns := by
      unfold natI
      rw [List.map_map]
      have : ∀ n ∈ ns, (Int.toNat ∘ fun n : Nat => (n : Int)) n = n := fun n _ => Int.toNat_natCast n
      rw [List.map_congr_left this, List.map_id']
    rw [e] at this
    exact this
/-- the first place of a thing in a list -/
theorem idx_first {α : Type} [BEq α] [LawfulBEq α] {x : α} : ∀ (xs : List α) (m : Nat) (y : α), m < xs.idxOf x → xs[m]? = some y → y ≠ x
  | [], m, y, _, h => by simp at h
  | z :: xs, m, y, hm, h => by
    by_cases e : z = x
    · subst e
      rw [List.idxOf_cons_self] at hm
      omega
    · have e0 : (z == x) = false := beq_eq_false_iff_ne.mpr e
      rw [List.idxOf_cons, e0, cond_false] at hm
      cases m with
      | zero =>
        have e' : z = y := by simpa using h
        rw [← e']
        exact e
      | succ m => exact idx_first xs m y (by omega) (by simpa using h)
end Gk
/-! ### machine -/
namespace Gk
open PySem L2
theorem flat_len {α β : Type} {f : α → List β} {B : Nat} : ∀ l : List α, (∀ x ∈ l, (f x).length ≤ B) → (l.flatMap f).length ≤ l.length * B
  | [], _ => by simp
  | x :: l, h => by
    have h1 := flat_len l fun y hy => h y (List.mem_cons_of_mem _ hy)
    have h2 := h x List.mem_cons_self
    rw [List.flatMap_cons, List.length_append, List.length_cons, Nat.succ_mul]
    omega
/-- what machine hands back: the machine of t over some keys -/
def MachAt (H : Hp) (r : Addr) (t : Tr) (keys : List Key) : Prop := ∃ (e m : Addr) (mvs : List V), H r = some (.tup [.ref e, .ref m]) ∧ H e = some (.tup ((endsM keys).map V.bl)) ∧ H m = some (.tup mvs) ∧ All2 (MvRep H) (movesM t keys) mvs ∧ KeysOk t keys
theorem MachAt.keep {H H' : Hp} (k : Tups H H') {r : Addr} {t : Tr} {keys : List Key} : MachAt H r t keys → MachAt H' r t keys := fun ⟨e, m, mvs, h1, h2, h3, h4, h5⟩ => ⟨e, m, mvs, k _ _ h1, k _ _ h2, k _ _ h3, h4.mono fun _ _ z => z.keep k, h5⟩
def spMachine : Sp := fun vs H Q _ => ∃ (t : Tr) (v : V), vs = [v] ∧ TreeAt H t v ∧ t.depth < 5 ∧ ∀ (H' : Hp) (r : Addr) (keys : List Key), Same H H' → MachAt H' r t keys → Q (.ref r) H'
structure Blt (mg : Str → Option Value) : Prop where
  len : mg "len" = none
  tuple : mg "tuple" = none
  sorted : mg "sorted" = none
  range : mg "range" = none
  list : mg "list" = none
  int : mg "int" = none
  isinstance : mg "isinstance" = none
theorem size16 {t : Tr} (h : t.depth < 5) : t.size ≤ 16 := Nat.le_trans (size_le t) (by
  have : 2 ^ t.depth ≤ 2 ^ 4 := Nat.pow_le_pow_right (by decide) (by omega)
  omega)
theorem keys_len {t : Tr} {keys : List Key} (K : KeysOk t keys) {s : Nat} (h : s < (once keys).length) : ((once keys).getD s (false, [])).2.length ≤ t.size + 1 := by
  obtain ⟨k, _, _, _, p⟩ := state_of K h
  rw [p.length_eq]
  exact nodup_bound _ _ (fol_nodup k) fun y hy => (fol_lt hy).2
section
variable {P : Program} {w : World} {K : PySem.W.Frag} {mg : Str → Option Value} {base : Heap}
theorem scM : FnScope ["choice", "places", "empty", "firsts", "lasts", "keys", "number", "states", "key", "moves", "state", "_", "part", "least", "most", "cost"] ["choice"] (defScope sMachine) := ⟨rfl, rfl, rfl, by decide +kernel, rfl, by decide +kernel, by decide +kernel⟩
theorem ok_machine {f C fI fW fL : Addr} {fd dI dWk dL : FuncData} (F : Fun K "machine" "machine" sMachine f fd) (T : Txt K mg C) (B : Blt mg) (M : Mk K C fI) (GI : FnOk P w K mg base CX0 1 fI dI ["self"] (spInit C)) (bI : Binds K dI ["self"] [])
    (GW : FnOk P w K mg base CX0 12 fW dWk ["places", "choice"] (spWk C fun t => t.depth < 5)) (bW : Binds K dWk ["places", "choice"] []) (kW : PySem.W.keepIn K (.ref fW) = true) (mW : mg "walk" = some (.ref fW))
    (GL : FnOk P w K mg base CX0 2 fL dL ["self", "lasts", "firsts"] (spLink C)) (bL : Binds K dL ["self", "lasts", "firsts"] []) (mL : Meth K C "link" fL) :
    FnOk P w K mg base CX0 13 f fd ["choice"] spMachine := by
  refine F.ok scM (fun vs H Q E h => ?_) (fun cdv A outer s H vs Q E hr h => ?_)
  · obtain ⟨t, v, rfl, _⟩ := h
    rfl
  obtain ⟨t, v, rfl, hT, hd, q⟩ := h
  have hu : (A.deeper (PyProof.Rows.envOfC "machine" (defScope sMachine) s.heap.objs.size f cdv)).units + 65 < cLine := by have := hr.un; omega
  refine ⟨_, pss_cons (ps_set (i := 1) scM.nd rfl (Or.inl rfl) (pe_make0 M GI (hr.mono (by decide)) rfl T.mgC bI .nil pass0))
    (pss_cons (ps_asg (pe_call GW hr rfl mW kW bW .nil pass0 (pa_cons (pv 1) (pa_cons (pv 0) pa_nil))) (pg_tup rfl (pgs_cons (pg_name (i := 2) scM.nd rfl (Or.inl rfl)) (pgs_cons (pg_name (i := 3) scM.nd rfl (Or.inl rfl)) (pgs_cons (pg_name (i := 4) scM.nd rfl (Or.inl rfl)) pgs_nil)))))
    (pss_cons (ps_expr (pe_meth (pv 1) T.cl mL GL (hr.mono (by decide)) bL .nil pass0 (pa_cons (pe_lst (pa_cons pe_int pa_nil)) (pa_cons (pv 3) pa_nil))))
    (pss_cons (ps_set (i := 5) scM.nd rfl (Or.inl rfl) (pe_lst (pa_cons (pe_tup (pa_cons (pv 2) (pa_cons (pe_callTy call_tuple_of (by rfl) B.tuple PyProof.Rows.boot_tuple (pa_cons (pe_callB cr_sortedI (by rfl) B.sorted PyProof.Rows.boot_sorted (pa_cons (pe_ix ix_list (pe_fld (pv 1) rfl) pe_int (fun _ _ => rfl)) pa_nil)) pa_nil)) pa_nil))) pa_nil)))
    (pss_cons (ps_for PassesOwn.never rfl (pi_range2 rfl B.range (pa_cons pe_int (pa_cons (pe_callB call_len_seq (by rfl) B.len PySem.boot_len (pa_cons (pe_fld (pv 1) rfl) pa_nil)) pa_nil))) (pg_name (i := 6) scM.nd rfl (Or.inl rfl))
      (pss_one (ps_expr (pe_bm PySem.F.plainAttrs_list PySem.F.slot_list_append PySem.F.type_list_append mt_append (pv 5) (pa_cons (pe_tup (pa_cons (pe_cmpR op_in_seq (pv 6) (pv 4) (by rfl)) (pa_cons (pe_callTy call_tuple_of (by rfl) B.tuple PyProof.Rows.boot_tuple (pa_cons (pe_callB cr_sortedI (by rfl) B.sorted PyProof.Rows.boot_sorted (pa_cons (pe_ix ix_list (pe_fld (pv 1) rfl) (pv 6) (fun _ _ => rfl)) pa_nil)) pa_nil)) pa_nil))) pa_nil)))))
    (pss_cons (ps_set (i := 7) scM.nd rfl (Or.inl rfl) (pe_lst pa_nil))
    (pss_cons (ps_for PassesOwn.never rfl (pi_list (pv 5)) (pg_name (i := 8) scM.nd rfl (Or.inl rfl))
      (pss_one (ps_if (pt_cmpR (op_notInD hu) (pv 8) (pv 7) (by rfl)) (pss_one (ps_expr (pe_bm PySem.F.plainAttrs_list PySem.F.slot_list_append PySem.F.type_list_append mt_append (pv 7) (pa_cons (pv 8) pa_nil)))) pss_nil)))
    (pss_cons (ps_set (i := 9) scM.nd rfl (Or.inl rfl) (pe_lst pa_nil))
    (pss_cons (ps_for PassesOwn.never rfl (pi_range1 rfl B.range (pa_cons (pe_callB call_len_seq (by rfl) B.len PySem.boot_len (pa_cons (pv 7) pa_nil)) pa_nil)) (pg_name (i := 10) scM.nd rfl (Or.inl rfl))
      (pss_one (ps_for PassesOwn.never rfl (pi_tup (pe_ix ix_tup (pe_ix ix_list (pv 7) (pv 10) (fun _ _ => rfl)) pe_int (fun _ _ => rfl))) (pg_name (i := 6) scM.nd rfl (Or.inl rfl))
        (pss_cons (ps_asg (pe_ix ix_list (pe_fld (pv 1) rfl) (pe_op op_sub (pv 6) pe_int) (fun _ _ => rfl)) (pg_tup rfl (pgs_cons (pg_name (i := 11) scM.nd rfl (Or.inl rfl)) (pgs_cons (pg_name (i := 12) scM.nd rfl (Or.inl rfl)) (pgs_cons (pg_name (i := 13) scM.nd rfl (Or.inl rfl)) (pgs_cons (pg_name (i := 14) scM.nd rfl (Or.inl rfl)) (pgs_cons (pg_name (i := 15) scM.nd rfl (Or.inl rfl)) pgs_nil)))))))
        (pss_one (ps_expr (pe_bm PySem.F.plainAttrs_list PySem.F.slot_list_append PySem.F.type_list_append mt_append (pv 9) (pa_cons (pe_tup (pa_cons (pv 10) (pa_cons (pe_bm PySem.F.plainAttrs_list PySem.F.slot_list_index PySem.F.type_list_index (mt_indexD hu) (pv 7) (pa_cons (pe_ix ix_list (pv 5) (pv 6) (fun _ _ => rfl)) pa_nil))
          (pa_cons (pv 12) (pa_cons (pv 13) (pa_cons (pv 14) (pa_cons (pv 15) pa_nil))))))) pa_nil))))))))
    (pss_one (ps_ret (pe_tup (pa_cons (pe_callTy call_tuple_of (by rfl) B.tuple PyProof.Rows.boot_tuple (pa_cons (pe_lc (own := [("key", 8)]) (g := gName 8) (by rfl) scM.nd (pi_list (pv 7)) (blkOk_by (own := [("key", 8)]) (N := ["choice", "places", "empty", "firsts", "lasts", "keys", "number", "states", "key", "moves", "state", "_", "part", "least", "most", "cost"]) (sc := defScope sMachine) (by decide +kernel))
        (fun _ _ _ _ _ => pg_name (i := 8) scM.nd rfl (Or.inl rfl)) (fun _ _ _ _ _ => pts_nil) (fun _ _ _ _ _ => pe_ix (r := rIxT K) ix_tup (pv 8) pe_int (fun _ _ => rfl))) pa_nil))
      (pa_cons (pe_callTy call_tuple_of (by rfl) B.tuple PyProof.Rows.boot_tuple (pa_cons (pv 9) pa_nil)) pa_nil))))))))))))), ?_⟩
  have hsz := size16 hd
  have hw := walk_ok t [[]]
  have wf1 : Wf 1000 [[]] := fun k => by
    cases k with
    | zero => exact ⟨List.nodup_nil, fun y hy => nomatch hy⟩
    | succ k => exact ⟨List.nodup_nil, fun y hy => nomatch hy⟩
  have bw := Bnd.walk (t := t) (F := [[]]) (qs := []) rfl wf1 (by show 0 + t.size ≤ 900; omega)
  have wl := bw.len
  rw [List.nil_append, leaves_length] at wl
  intro x dx nx ndx nex
  refine ⟨x, dx, rfl, upd_same, fun HA pl fl kA pl0 fl0 hPA => ⟨rfl, ?_⟩⟩
  have sA : Same H HA := Same.made nx ndx fun b o e n => kA b o n e
  have fresh : ∀ {a : Addr}, (upd (upd H dx (.own x)) x (.ins C dx [])) a = none → H a = none := fun {a} e => by
    have h1 : a ≠ x := fun z => by rw [z, upd_same] at e; cases e
    rw [upd_ne h1] at e
    have h2 : a ≠ dx := fun z => by rw [z, upd_same] at e; cases e
    rw [upd_ne h2] at e
    exact e
  have pl1 := fresh pl0
  have fl1 := fresh fl0
  -- empty, firsts, lasts = walk(places, choice)
  refine ⟨_, rfl, _, rfl, x, pl, fl, [], [[]], t, v, rfl, hPA, hT.keep (.of sA), hd, rfl, wf1, (by show 0 + t.size ≤ 900; omega), fun HB rB vf vl bB hPB hrB hfB hlB => ?_⟩
  refine ⟨rB, _, rfl, SqT.of hrB, rfl, _, _, rfl, _, _, rfl, _, _, rfl, rfl, ?_⟩
  -- places.link([0], firsts)
  obtain ⟨dxB, hoB⟩ := hPB.obj
  refine ⟨_, rfl, x, dxB, _, rfl, hoB, pf_noLink _ _, line_big (by show 1 ≤ _; decide), fun z hz => ?_⟩
  have sC := same_new hz (.lst [.int 0])
  have hPC := hPB.same sC
  have nz := LN.ne_new hPB hz
  refine ⟨_, rfl, x, pl, fl, _, _, [0], (walkM t [[]]).f, .ref z, vf, 1000, rfl, hPC, ⟨z, rfl, nz.1, nz.2, upd_same⟩, hfB.keep (.of sC), Nat.le_refl _, bw.wf, bw.fn, (fun y hy => by have := bw.fb y hy; omega), (fun y hy => by
    have e : y = 0 := List.mem_singleton.mp hy
    omega), fun HD bD hPD => ?_⟩
  have hlD : LN HD pl fl (walkM t [[]]).l vl := hlB.keep ((But2.of sC).trans bD)
  have sD : Same H HD := fun b u e => by
    have n1 : b ≠ pl := ne_of_none e pl1
    have n2 : b ≠ fl := ne_of_none e fl1
    exact bD b u n1 n2 (sC b u (bB b u n1 n2 (sA b u e)))
  have hPD' : PlacesAt C HD x pl fl t.leaves (folM t) := hPD
  clear hPD bD hPC sC hPB hfB hlB bB hPA kA
  obtain ⟨al, rfl, _, _, hal⟩ := hlD
  obtain ⟨dxD, hoD⟩ := hPD'.obj
  obtain ⟨frs, hfr, hfa⟩ := hPD'.fls
  obtain ⟨pvs, hpv, hpa⟩ := hPD'.pls
  have hfl := hfa.1
  rw [fol_length] at hfl
  -- what stands at the k-th place of the followers
  have folAt : ∀ k, k < t.size + 1 → ∃ a : Addr, frs[k]? = some (.ref a) ∧ HD a = some (.lst ((natI ((folM t).getD k [])).map V.int)) := fun k hk => by
    have e : (folM t)[k]? = some ((folM t).getD k []) := by
      rw [List.getD_eq_getElem?_getD, List.getElem?_eq_getElem (by rw [fol_length]; exact hk)]
      rfl
    obtain ⟨v, h1, ⟨a, h2, _, _, h3⟩⟩ := hfa.at e
    subst h2
    exact ⟨a, h1, by rw [← natL_natI]; exact h3⟩
  obtain ⟨a0, ha0, hb0⟩ := folAt 0 (by omega)
  -- keys = [(empty, tuple(sorted(places.followers[0])))]
  refine ⟨_, rfl, _, rfl, x, C, dxD, _, _, rfl, hoD, T.cl, T.nF, pf_fol _ _, fl, _, _, _, rfl, rfl, SqL.of hfr, atI_nat (j := 0) ha0, a0, _, rfl, SqL.of hb0, fun zs p perm _ hp => ?_⟩
  obtain ⟨ms, rfl, pm⟩ := sort_back perm
  refine ⟨p, _, rfl, .inl ⟨SqL.of upd_same, fun l hl => ⟨line_big (by show 2 ≤ _; decide), fun k0 hk0 => ⟨line_big (by show 1 ≤ _; decide), fun kl hkl => ?_⟩⟩⟩⟩
  rw [← natL_natI] at hl hk0 hkl ⊢
  have sE : Same HD (upd (upd (upd HD p (.lst (natL ms))) l (.tup (natL ms))) k0 (.tup [.bl (walkM t [[]]).e, .ref l])) := (same_new hp _).trans ((same_new hl _).trans (same_new hk0 _))
  generalize hHE : upd (upd (upd HD p (.lst (natL ms))) l (.tup (natL ms))) k0 (.tup [.bl (walkM t [[]]).e, .ref l]) = HE at sE hkl ⊢
  have key0 : KeyRep HE ((walkM t [[]]).e, ms) (.ref k0) := by
    refine ⟨k0, l, rfl, ?_, ?_⟩
    · rw [← hHE, upd_same]
    · have n : l ≠ k0 := fun e => by rw [← e, upd_same] at hk0; cases hk0
      rw [← hHE, upd_ne n, upd_same]
  clear hHE
  -- the loop over the numbers
  refine ⟨_, rfl, x, C, dxD, _, _, rfl, (same_new hkl _) _ _ (sE _ _ hoD), T.cl, T.nF, pf_fol _ _, fl, _, rfl, .inl (SqL.of ((same_new hkl _) _ _ (sE _ _ hfr))), _, _, rfl, ⟨by decide, by decide, by omega, by omega⟩, ?_⟩
  refine for_range (lo := 1) (n := (((frs.length : Nat) : Int) - 1).toNat) (fun i σ H' => ∃ (keys : List Key) (kvs : List V) (o6 : Option V), σ = [some v, some (.ref x), some (.bl (walkM t [[]]).e), some vf, some (.ref al), some (.ref kl), o6, none, none, none, none, none, none, none, none, none] ∧
      Same HE H' ∧ H' kl = some (.lst kvs) ∧ All2 (KeyRep H') keys kvs ∧ keys.length = i + 1 ∧ ∀ (k : Nat) (z : Key), keys[k]? = some z → KeyAt t k z) ?_ ?_ ?_
  · refine ⟨[((walkM t [[]]).e, ms)], [.ref k0], none, rfl, same_new hkl _, upd_same, All2.snoc (xs := []) (vs := []) All2.nil (key0.keep (.of (same_new hkl _))), rfl, fun k z hz' => ?_⟩
    cases k with
    | zero =>
      have e : ((walkM t [[]]).e, ms) = z := by simpa using hz'
      subst e
      exact ⟨rfl, pm⟩
    | succ k => simp at hz'
  · rintro i σ H' hi ⟨keys, kvs, o6, rfl, s1, hk, ha, hlen, hat⟩
    have hi' : i + 1 < t.size + 1 := by omega
    obtain ⟨ai, hai, hbi⟩ := folAt (i + 1) hi'
    have sDH : Same HD H' := sE.trans s1
    have hlk := ha.1
    refine ⟨_, rfl, .inl ⟨rfl, _, SqL.of hk⟩, ?_⟩
    -- (number in lasts, tuple(sorted(..)))
    refine ⟨_, rfl, _, rfl, al, _, rfl, .inl (SqL.of (sDH _ _ hal)), rfl, natL_flat _, ?_⟩
    refine ⟨_, rfl, x, C, dxD, _, _, rfl, sDH _ _ hoD, T.cl, T.nF, pf_fol _ _, _, rfl, fl, _, _, _, rfl, rfl, SqL.of (sDH _ _ hfr), at_of (j := i + 1) (by omega) hai, ai, _, rfl, SqL.of (sDH _ _ hbi), fun zs p' perm' _ hp' => ?_⟩
    obtain ⟨ms', rfl, pm'⟩ := sort_back perm'
    refine ⟨p', _, rfl, .inl ⟨SqL.of upd_same, fun l' hl' => ⟨line_big (by show 2 ≤ _; decide), fun k' hk' => ?_⟩⟩⟩
    rw [← natL_natI] at hl' hk' ⊢
    have eb : (if false = true then !inV (V.int (1 + (i : Int))) (natL (walkM t [[]]).l) else inV (V.int (1 + (i : Int))) (natL (walkM t [[]]).l)) = endB (walkM t [[]]) (i + 1) := by
      have e1 : (1 + (i : Int)) = ((i + 1 : Nat) : Int) := by omega
      rw [if_neg (by decide), e1, inV_nat]
      unfold endB
      rw [if_neg (by omega)]
    rw [eb]
    have s2 : Same H' (upd (upd (upd H' p' (.lst (natL ms'))) l' (.tup (natL ms'))) k' (.tup [.bl (endB (walkM t [[]]) (i + 1)), .ref l'])) := (same_new hp' _).trans ((same_new hl' _).trans (same_new hk' _))
    have key1 : KeyRep (upd (upd (upd H' p' (.lst (natL ms'))) l' (.tup (natL ms'))) k' (.tup [.bl (endB (walkM t [[]]) (i + 1)), .ref l'])) (endB (walkM t [[]]) (i + 1), ms') (.ref k') := by
      refine ⟨k', l', rfl, ?_, ?_⟩
      · rw [upd_same]
      · have n : l' ≠ k' := fun e => by rw [← e, upd_same] at hk'; cases hk'
        rw [upd_ne n, upd_same]
    refine ⟨kl, _, _, rfl, rfl, s2 _ _ hk, line_lt (by omega), ?_⟩
    generalize upd (upd (upd H' p' (.lst (natL ms'))) l' (.tup (natL ms'))) k' (.tup [.bl (endB (walkM t [[]]) (i + 1)), .ref l']) = H2 at s2 key1 ⊢
    have b3 : But2 kl kl H2 (upd H2 kl (.lst (kvs ++ [.ref k']))) := .upd1
    have t3 : Tups H2 (upd H2 kl (.lst (kvs ++ [.ref k']))) := b3.tups (s2 _ _ hk) (s2 _ _ hk)
    refine ⟨keys ++ [(endB (walkM t [[]]) (i + 1), ms')], kvs ++ [.ref k'], _, rfl, fun b u e => ?_, upd_same, (ha.mono fun _ _ z => (z.keep (.of s2)).keep t3).snoc (key1.keep t3), by rw [List.length_append, hlen]; rfl, fun k z hz' => ?_⟩
    · have n : b ≠ kl := ne_of_none e hkl
      rw [upd_ne n]
      exact s2 _ _ (s1 _ _ e)
    · by_cases hkk : k < keys.length
      · rw [List.getElem?_append_left hkk] at hz'
        exact hat k z hz'
      · rw [List.getElem?_append_right (by omega)] at hz'
        cases hkz : k - keys.length with
        | zero =>
          rw [hkz] at hz'
          have e : (endB (walkM t [[]]) (i + 1), ms') = z := by simpa using hz'
          have ek : k = i + 1 := by omega
          rw [← e, ek]
          exact ⟨rfl, pm'⟩
        | succ n => rw [hkz] at hz'; simp at hz'
  rintro σ HG ⟨keys, kvs, o6, rfl, sG, hkG, haG, hlG, hatG⟩
  have hKeys : KeysOk t keys := ⟨by omega, hatG⟩
  have hkl' : keys.length = t.size + 1 := hKeys.1
  have hkvl := haG.1
  have sDG : Same HD HG := sE.trans sG
  -- states = []
  refine ⟨Nat.zero_le _, fun sl hsl => ?_⟩
  have sS := same_new hsl (.lst [])
  refine ⟨_, rfl, kl, rfl, ⟨_, SqL.of (sS _ _ hkG)⟩, for_list (K := K) (a := kl) (xs := kvs) (fun i σ H' => ∃ (svs : List V) (o8 : Option V), σ = [some v, some (.ref x), some (.bl (walkM t [[]]).e), some vf, some (.ref al), some (.ref kl), o6, some (.ref sl), o8, none, none, none, none, none, none, none] ∧
      Same HG H' ∧ H' sl = some (.lst svs) ∧ All2 (KeyRep H') (once (keys.take i)) svs) ⟨[], none, rfl, sS, upd_same, All2.nil⟩ (fun i σ H' _ ⟨_, _, _, s1, _⟩ => SqL.of (s1 _ _ hkG)) ?_ ?_⟩
  · rintro i xv σ H' hx ⟨svs, o8, rfl, s1, hs, ha⟩
    obtain ⟨kq, hkq, rq⟩ := haG.at' hx
    have hol := once_len (keys.take i)
    rw [List.length_take] at hol
    have hsvl := ha.1
    refine ⟨_, rfl, _, rfl, keyD kq, _, (rq.keep (.of s1)).dp, .lst (SqL.of hs) (dpAll_of (fun _ _ z => z.dp) _ _ ha), keyD_shaped _, keyDs_shaped _, _, rfl, ?_⟩
    rw [keyDs_any]
    have es1 : kq ∈ once (keys.take i) → once (keys.take (i + 1)) = once (keys.take i) := fun hm => by rw [take_snoc hkq, once_snoc, if_pos hm]
    have es2 : kq ∉ once (keys.take i) → once (keys.take (i + 1)) = once (keys.take i) ++ [kq] := fun hm => by rw [take_snoc hkq, once_snoc, if_neg hm]
    by_cases hm : kq ∈ once (keys.take i)
    · rw [decide_eq_true hm]
      refine iteF ?_
      refine ⟨svs, _, rfl, s1, hs, ?_⟩
      rw [es1 hm]
      exact ha
    · rw [decide_eq_false hm]
      refine iteT ?_
      refine ⟨_, rfl, .inl ⟨rfl, _, SqL.of hs⟩, _, rfl, sl, _, _, rfl, rfl, hs, line_lt (by omega), ?_⟩
      have b3 : But2 sl sl H' (upd H' sl (.lst (svs ++ [xv]))) := .upd1
      have t3 : Tups H' (upd H' sl (.lst (svs ++ [xv]))) := b3.tups hs hs
      refine ⟨svs ++ [xv], _, rfl, fun b u e => ?_, upd_same, ?_⟩
      · rw [upd_ne (ne_of_none e hsl)]
        exact s1 _ _ e
      · rw [es2 hm]
        exact (ha.mono fun _ _ z => z.keep t3).snoc ((rq.keep (.of s1)).keep t3)
  rintro σ HM ⟨svs, o8, rfl, sM, hsM, haM⟩
  rw [← hkvl, List.take_length] at haM
  have hsvl := haM.1
  have hol := once_len keys
  have sDM : Same HD HM := sDG.trans sM
  -- moves = []
  refine ⟨Nat.zero_le _, fun ml hml => ?_⟩
  have sN := same_new hml (.lst [])
  refine ⟨_, rfl, sl, _, rfl, .inl (SqL.of (sN _ _ hsM)), _, rfl, by omega, by omega, ?_⟩
  have mvlen : ∀ i, i ≤ (once keys).length → ((List.range i).flatMap fun s => ((once keys).getD s (false, [])).2.map (moveM t keys s)).length ≤ 17 * 17 := fun i hi => by
    refine Nat.le_trans (flat_len (B := 17) _ fun s hs => ?_) ?_
    · have hs' := List.mem_range.mp hs
      rw [List.length_map]
      have := keys_len hKeys (s := s) (by omega)
      omega
    · rw [List.length_range]
      exact Nat.mul_le_mul_right 17 (by omega)
  refine for_range (lo := 0) (n := ((svs.length : Nat) : Int).toNat) (fun i σ H' => ∃ (mvs : List V) (o6 o10 o11 o12 o13 o14 o15 : Option V), σ = [some v, some (.ref x), some (.bl (walkM t [[]]).e), some vf, some (.ref al), some (.ref kl), o6, some (.ref sl), o8, some (.ref ml), o10, o11, o12, o13, o14, o15] ∧
      Same HM H' ∧ H' ml = some (.lst mvs) ∧ All2 (MvRep H') ((List.range i).flatMap fun s => ((once keys).getD s (false, [])).2.map (moveM t keys s)) mvs) ?_ ?_ ?_
  · exact ⟨[], o6, none, none, none, none, none, none, rfl, sN, upd_same, All2.nil⟩
  · rintro i σ H' hi ⟨mvs, p6, o10, o11, o12, o13, o14, o15, rfl, s1, hm, ha⟩
    have hi' : i < (once keys).length := by omega
    have hget : (once keys)[i]? = some ((once keys).getD i (false, [])) := by
      rw [List.getD_eq_getElem?_getD, List.getElem?_eq_getElem hi']
      rfl
    obtain ⟨sv, hsv, ⟨ta, tb, rfl, hta, htb⟩⟩ := haM.at hget
    have e0 : (0 : Int) + (i : Int) = (i : Int) := by omega
    refine ⟨_, rfl, _, rfl, sl, _, _, _, rfl, rfl, SqL.of (s1 _ _ hsM), at_of (j := i) e0 hsv, ta, _, _, _, rfl, rfl, SqT.of (s1 _ _ hta), atI_nat (j := 1) rfl, tb, rfl, ⟨_, SqT.of (s1 _ _ htb)⟩, ?_⟩
    refine for_tup (K := K) (a := tb) (xs := natL ((once keys).getD i (false, [])).2) (fun j σ H'' => ∃ (mvs : List V) (o6 o11 o12 o13 o14 o15 : Option V), σ = [some v, some (.ref x), some (.bl (walkM t [[]]).e), some vf, some (.ref al), some (.ref kl), o6, some (.ref sl), o8, some (.ref ml), some (.int (0 + (i : Int))), o11, o12, o13, o14, o15] ∧
      Same HM H'' ∧ H'' ml = some (.lst mvs) ∧ All2 (MvRep H'') (((List.range i).flatMap fun s => ((once keys).getD s (false, [])).2.map (moveM t keys s)) ++ (((once keys).getD i (false, [])).2.take j).map (moveM t keys i)) mvs) ?_ ?_ ?_ ?_
    · exact ⟨mvs, p6, o11, o12, o13, o14, o15, rfl, s1, hm, by rw [List.take_zero, List.map_nil, List.append_nil]; exact ha⟩
    · rintro j σ H'' _ ⟨_, _, _, _, _, _, _, _, s2, _⟩
      exact SqT.of (s2 _ _ htb)
    · rintro j xv σ H2 hx ⟨mv2, q6, q11, q12, q13, q14, q15, rfl, s2, hm2, ha2⟩
      obtain ⟨n, hn, rfl⟩ := natL_get hx
      have nm : n ∈ ((once keys).getD i (false, [])).2 := List.mem_of_getElem? hn
      obtain ⟨n1, n2⟩ := num_of_state hKeys hi' nm
      have hlf := leaf_get (t := t) n1 n2
      obtain ⟨pv', hpv', ⟨pa, rfl, hpa'⟩⟩ := hpa.at hlf
      have sD2 : Same HD H2 := sDM.trans s2
      have hl1 := mvlen i (by omega)
      have hl2 : ((((once keys).getD i (false, [])).2.take j).map (moveM t keys i)).length ≤ 17 := by
        rw [List.length_map, List.length_take]
        have := keys_len hKeys hi'
        omega
      have hl3 := ha2.1
      rw [List.length_append] at hl3
      -- _, part, least, most, cost = places.places[number - 1]
      refine ⟨_, rfl, x, C, dxD, _, _, rfl, sD2 _ _ hoD, T.cl, T.nP, pf_places _ _, _, rfl, _, _, rfl, rfl, pl, _, _, _, rfl, rfl, SqL.of (sD2 _ _ hpv), at_of (j := n - 1) (by omega) hpv', ?_⟩
      refine ⟨pa, _, rfl, SqT.of (sD2 _ _ hpa'), rfl, _, _, rfl, _, _, rfl, _, _, rfl, _, _, rfl, _, _, rfl, rfl, ?_⟩
      -- moves.append((state, states.index(keys[number]), part, least, most, cost))
      obtain ⟨kg1, kg2⟩ := hKeys.get n2
      obtain ⟨kv, hkv, krep⟩ := haG.at kg1
      obtain ⟨c1, c2⟩ := cls_get (key_mem kg1)
      have sG2 : Same HG H2 := sM.trans s2
      have ha2s : All2 (KeyRep H2) (once keys) svs := haM.mono fun _ _ z => z.keep (.of s2)
      have hidx : ((once keys).map keyD)[(once keys).idxOf (keys.getD n (false, []))]? = some (keyD (keys.getD n (false, []))) := by
        rw [List.getElem?_map, List.getElem?_eq_getElem c2]
        rw [List.getD_eq_getElem?_getD (l := once keys), List.getElem?_eq_getElem c2] at c1
        exact congrArg (fun z => some (keyD z)) c1
      refine ⟨_, rfl, .inl ⟨rfl, _, SqL.of hm2⟩, _, rfl, _, rfl, .inl ⟨rfl, _, SqL.of (s2 _ _ hsM)⟩, _, rfl, _, rfl, kl, _, _, _, rfl, rfl, SqL.of (sG2 _ _ hkG), atI_nat (j := n) hkv, ?_⟩
      refine ⟨sl, kv, keyD (keys.getD n (false, [])), (once keys).map keyD, (once keys).idxOf (keys.getD n (false, [])), _, rfl, rfl, .lst (SqL.of (s2 _ _ hsM)) (dpAll_of (fun _ _ z => z.dp) _ _ ha2s), (krep.keep (.of sG2)).dp, keyDs_shaped _, keyD_shaped _, hidx, (by rw [keyD_eqv]; simp), fun m z' hmz hz' => ?_, ?_⟩
      · rw [List.getElem?_map] at hz'
        cases hy : (once keys)[m]? with
        | none => rw [hy] at hz'; cases hz'
        | some y =>
          rw [hy] at hz'
          have e : keyD y = z' := Option.some.inj hz'
          rw [← e, keyD_eqv]
          exact decide_eq_false (idx_first _ m y hmz hy)
      · refine ⟨_, rfl, _, rfl, _, rfl, _, rfl, line_big (by show 6 ≤ _; decide), fun mt hmt => ?_⟩
        rw [e0]
        have s3 := same_new hmt (.tup [.int (i : Int), .int (((once keys).idxOf (keys.getD n (false, [])) : Nat) : Int), .int (t.leaves.getD (n - 1) (0, 0, 0, 0)).1, .int (t.leaves.getD (n - 1) (0, 0, 0, 0)).2.1, .int (t.leaves.getD (n - 1) (0, 0, 0, 0)).2.2.1, .int ((t.leaves.getD (n - 1) (0, 0, 0, 0)).2.2.2 : Int)])
        refine ⟨ml, _, _, rfl, rfl, s3 _ _ hm2, line_lt (by omega), ?_⟩
        generalize hH3 : upd H2 mt (.tup [.int (i : Int), .int (((once keys).idxOf (keys.getD n (false, [])) : Nat) : Int), .int (t.leaves.getD (n - 1) (0, 0, 0, 0)).1, .int (t.leaves.getD (n - 1) (0, 0, 0, 0)).2.1, .int (t.leaves.getD (n - 1) (0, 0, 0, 0)).2.2.1, .int ((t.leaves.getD (n - 1) (0, 0, 0, 0)).2.2.2 : Int)]) = H3 at s3 ⊢
        have mrep : MvRep H3 (moveM t keys i n) (.ref mt) := ⟨mt, rfl, by rw [← hH3, upd_same]; rfl⟩
        have b4 : But2 ml ml H3 (upd H3 ml (.lst (mv2 ++ [.ref mt]))) := .upd1
        have t4 : Tups H3 (upd H3 ml (.lst (mv2 ++ [.ref mt]))) := b4.tups (s3 _ _ hm2) (s3 _ _ hm2)
        refine ⟨mv2 ++ [.ref mt], _, _, _, _, _, _, rfl, fun b u e => ?_, upd_same, ?_⟩
        · rw [upd_ne (ne_of_none e hml)]
          exact s3 _ _ (s2 _ _ e)
        · rw [take_snoc hn, List.map_append, ← List.append_assoc]
          exact (ha2.mono fun _ _ z => (z.keep (.of s3)).keep t4).snoc (mrep.keep t4)
    · rintro σ H2 ⟨mv2, q6, q11, q12, q13, q14, q15, rfl, s2, hm2, ha2⟩
      rw [natL_length, List.take_length] at ha2
      refine ⟨mv2, q6, _, q11, q12, q13, q14, q15, rfl, s2, hm2, ?_⟩
      rw [List.range_succ, List.flatMap_append]
      simpa using ha2
  rintro σ HR ⟨mvs, p6, o10, o11, o12, o13, o14, o15, rfl, sR, hmR, haR⟩
  have en : ((svs.length : Nat) : Int).toNat = (once keys).length := by omega
  rw [en] at haR
  have haR' : All2 (MvRep HR) (movesM t keys) mvs := haR
  -- return (tuple([key[0] for key in states]), tuple(moves))
  refine ⟨_, rfl, sl, rfl, ⟨_, SqL.of (sR _ _ hsM)⟩, fun D hD => ?_⟩
  have haS : All2 (KeyRep HR) (once keys) svs := haM.mono fun _ _ z => z.keep (.of sR)
  refine lc_list (K := K) (a := sl) (xs := svs) (fun i H' => Same HR H' ∧ H' D = some (.lst (((once keys).take i).map fun z => V.bl z.1))) ⟨same_new hD _, upd_same⟩ (fun i H' _ h => SqL.of (h.1 _ _ (sR _ _ hsM))) ?_ ?_
  · rintro i xv H' hx ⟨h1, h2⟩
    obtain ⟨kq, hkq, ⟨ka, kb, rfl, hka, hkb⟩⟩ := haS.at' hx
    refine ⟨rfl, ?_⟩
    refine ⟨_, rfl, ka, _, _, _, rfl, rfl, SqT.of (h1 _ _ hka), atI_nat (j := 0) rfl, _, h2, ?_, fun b u e => ?_, ?_⟩
    · rw [List.length_map, List.length_take]
      exact line_lt (by omega)
    · rw [upd_ne (ne_of_none e hD)]
      exact h1 _ _ e
    · rw [upd_same, take_snoc hkq, List.map_append]
      rfl
  rintro H' ⟨h1, h2⟩
  rw [← hsvl, List.take_length] at h2
  refine ⟨D, _, rfl, .inl ⟨SqL.of h2, fun e he => ?_⟩⟩
  have s5 := same_new he (.tup ((once keys).map fun z => V.bl z.1))
  refine ⟨_, rfl, ml, _, rfl, .inl ⟨SqL.of (s5 _ _ (h1 _ _ hmR)), fun m hm => ?_⟩⟩
  have s6 := same_new hm (.tup mvs)
  refine ⟨line_big (by show 2 ≤ _; decide), fun r hr' => ?_⟩
  have s7 := same_new hr' (.tup [.ref e, .ref m])
  have sAll : Same HR (upd (upd (upd H' e (.tup ((once keys).map fun z => V.bl z.1))) m (.tup mvs)) r (.tup [.ref e, .ref m])) := h1.trans (s5.trans (s6.trans s7))
  refine q _ r keys (sD.trans (sDM.trans (sR.trans sAll))) ⟨e, m, mvs, upd_same, ?_, s7 _ _ upd_same, haR'.mono fun _ _ z => z.keep (.of sAll), hKeys⟩
  refine s7 _ _ (s6 _ _ ?_)
  rw [upd_same]
  unfold endsM
  rw [List.map_map]
  rfl
end
end Gk
/-! ### the law's draws -/
namespace Gk
open PySem L2
def spCell (K : PySem.W.Frag) : Sp := fun vs H Q _ => ∃ (a : Addr) (ns : List Int) (k : Int), vs = [.ref a, .int k] ∧ SqL K H a (ns.map V.int) ∧ 0 ≤ k ∧ ∀ z : Int, Q (.int z) H
def spDigits (K : PySem.W.Frag) : Sp := fun vs H Q _ => ∃ (a : Addr) (ns : List Int), vs = [.ref a, .int 0, .int 40] ∧ SqL K H a (ns.map V.int) ∧
  ∀ (H' : Hp) (d : Addr) (ds : List Int), Same H H' → H' d = some (.lst (ds.map V.int)) → Q (.ref d) H'
/-- the box: the digits, the place of the next draw -/
def BoxAt (H : Hp) (b c d : Addr) : Prop := ∃ (ds : List Int) (z : Int), d ≠ b ∧ d ≠ c ∧ H b = some (.lst [.ref d, .int z]) ∧ H d = some (.lst (ds.map V.int)) ∧ 0 ≤ z
def spDraw : Sp := fun vs H Q _ => ∃ (b c d : Addr) (m : Int), vs = [.ref b, .int m] ∧ BoxAt H b c d ∧ 0 < m ∧ ∀ (H' : Hp) (r : Int), But2 b b H H' → BoxAt H' b c d → 0 ≤ r → r < m → Q (.int r) H'
theorem But2.one {b c : Addr} {H H' : Hp} (h : But2 b b H H') : But2 b c H H' := fun a u h1 _ e => h a u h1 h1 e
theorem BoxAt.keep {H H' : Hp} {b c d : Addr} (h : BoxAt H b c d) (k : Same H H') : BoxAt H' b c d := by
  obtain ⟨ds, z, h1, h2, h3, h4, h5⟩ := h
  exact ⟨ds, z, h1, h2, k _ _ h3, k _ _ h4, h5⟩
theorem BoxAt.upd {H : Hp} {b c d p : Addr} {o : HO} (h : BoxAt H b c d) (h1 : p ≠ b) (h2 : p ≠ d) : BoxAt (upd H p o) b c d := by
  obtain ⟨ds, z, n1, n2, h3, h4, h5⟩ := h
  exact ⟨ds, z, n1, n2, by rw [upd_ne (Ne.symm h1)]; exact h3, by rw [upd_ne (Ne.symm h2)]; exact h4, h5⟩
theorem int_at {ns : List Int} {k : Int} (h0 : 0 ≤ k) (h : k < (ns.length : Int)) : ∃ z : Int, atI (ns.map V.int) k = some (.int z) := by
  have hk : k.toNat < ns.length := by omega
  exact ⟨ns[k.toNat], at_of (j := k.toNat) (by omega) (by rw [List.getElem?_map, List.getElem?_eq_getElem hk]; rfl)⟩
section
variable {P : Program} {w : World} {K : PySem.W.Frag} {mg : Str → Option Value} {base : Heap}
theorem scC : FnScope ["_law_script", "_law_k"] ["_law_script", "_law_k"] (defScope sCell) := ⟨rfl, rfl, rfl, by decide +kernel, rfl, by decide +kernel, by decide +kernel⟩
theorem ok_cell {f : Addr} {fd : FuncData} (F : Fun K "_law_cell" "_law_cell" sCell f fd) (B : Blt mg) : FnOk P w K mg base CX0 1 f fd ["_law_script", "_law_k"] (spCell K) := by
  refine F.ok scC (fun vs H Q E h => ?_) (fun cdv A outer s H vs Q E hr h => ?_)
  · obtain ⟨a, ns, k, rfl, _⟩ := h
    rfl
  obtain ⟨a, ns, k, rfl, hS, h0, q⟩ := h
  refine ⟨_, pss_cons (ps_if (pt_cmpR op_lt (pv 1) (pe_callB call_len_seq rfl B.len PySem.boot_len (pa_cons (pv 0) pa_nil)) (nomark _)) (pss_one (ps_ret (pe_ix ix_list (pv 0) (pv 1) (fun _ _ => rfl)))) pss_nil)
    (pss_one (ps_ret pe_int)), ?_⟩
  have hl : (ns.map V.int).length = ns.length := List.length_map _
  refine ⟨_, rfl, _, rfl, a, _, rfl, .inl hS, _, _, rfl, rfl, _, rfl, ?_⟩
  refine ite2 (fun c => ?_) (fun c => ?_)
  · have c' : k < (((ns.map V.int).length : Nat) : Int) := of_decide_eq_true c
    rw [hl] at c'
    obtain ⟨z, hz⟩ := int_at (ns := ns) h0 c'
    exact ⟨_, rfl, _, rfl, a, _, _, _, rfl, rfl, hS, hz, q z⟩
  · exact q 0
theorem scDg : FnScope ["_law_script", "_law_first", "_law_last", "_law_digits_here", "_law_k", "_law_cell_here", "_law_turn", "_law_seed"] ["_law_script", "_law_first", "_law_last"] (defScope sDigits) := ⟨rfl, rfl, rfl, by decide +kernel, rfl, by decide +kernel, by decide +kernel⟩
theorem ok_digits {f g : Addr} {fd gd : FuncData} (F : Fun K "_law_digits" "_law_digits" sDigits f fd) (B : Blt mg) (G : FnOk P w K mg base CX0 1 g gd ["_law_script", "_law_k"] (spCell K)) (bG : Binds K gd ["_law_script", "_law_k"] []) (kG : PySem.W.keepIn K (.ref g) = true) (mG : mg "_law_cell" = some (.ref g)) :
    FnOk P w K mg base CX0 2 f fd ["_law_script", "_law_first", "_law_last"] (spDigits K) := by
  refine F.ok scDg (fun vs H Q E h => ?_) (fun cdv A outer s H vs Q E hr h => ?_)
  · obtain ⟨a, ns, rfl, _⟩ := h
    rfl
  obtain ⟨a, ns, rfl, hS, q⟩ := h
  refine ⟨_, pss_cons (ps_set (i := 3) scDg.nd rfl (Or.inl rfl) (pe_lst pa_nil))
    (pss_cons (ps_for PassesOwn.never rfl (pi_range2 rfl B.range (pa_cons (pv 1) (pa_cons (pv 2) pa_nil))) (pg_name (i := 4) scDg.nd rfl (Or.inl rfl))
      (pss_cons (ps_set (i := 5) scDg.nd rfl (Or.inl rfl) (pe_call G hr rfl mG kG bG .nil pass0 (pa_cons (pv 0) (pa_cons (pv 4) pa_nil))))
      (pss_cons (ps_if (pt_cmpR op_lt (pv 5) pe_int (nomark _)) (pss_one (ps_set (i := 5) scDg.nd rfl (Or.inl rfl) (pe_op op_sub pe_int (pe_op op_mul pe_int (pv 5))))) pss_nil)
      (pss_one (ps_if (pt_cmpR op_ge (pv 5) (pe_op op_pow pe_int pe_int) (nomark _))
        (pss_one (ps_for PassesOwn.never rfl (pi_range1 rfl B.range (pa_cons pe_int pa_nil)) (pg_name (i := 6) scDg.nd rfl (Or.inl rfl))
          (pss_one (ps_if (pt_cmpR op_gt (pv 5) pe_int (nomark _))
            (pss_cons (ps_expr (pe_bm PySem.F.plainAttrs_list PySem.F.slot_list_append PySem.F.type_list_append mt_append (pv 3) (pa_cons (pe_op op_mod (pe_callTy call_int1 (by rfl) B.int PyProof.Rows.boot_int (pa_cons (pv 5) pa_nil)) pe_int) pa_nil)))
              (pss_one (ps_set (i := 5) scDg.nd rfl (Or.inl rfl) (pe_op op_fdiv (pv 5) pe_int)))) pss_nil))))
        (pss_cons (ps_set (i := 7) scDg.nd rfl (Or.inl rfl) (pe_op op_mod (pe_callTy call_int1 (by rfl) B.int PyProof.Rows.boot_int (pa_cons (pe_op op_add (pe_op op_add (pe_op op_mul (pv 5) pe_int) (pe_op op_mul (pv 4) pe_int)) pe_int) pa_nil)) pe_int))
        (pss_one (ps_for PassesOwn.never rfl (pi_range1 rfl B.range (pa_cons pe_int pa_nil)) (pg_name (i := 6) scDg.nd rfl (Or.inl rfl))
          (pss_cons (ps_set (i := 7) scDg.nd rfl (Or.inl rfl) (pe_op op_mod (pe_callTy call_int1 (by rfl) B.int PyProof.Rows.boot_int (pa_cons (pe_op op_add (pe_op op_add (pe_op op_mul (pv 7) pe_int) (pe_op op_mul pe_int (pv 6))) pe_int) pa_nil)) pe_int))
          (pss_one (ps_expr (pe_bm PySem.F.plainAttrs_list PySem.F.slot_list_append PySem.F.type_list_append mt_append (pv 3) (pa_cons (pe_op op_mod (pe_callTy call_int1 (by rfl) B.int PyProof.Rows.boot_int (pa_cons (pe_op op_fdiv (pv 7) pe_int) pa_nil)) pe_int) pa_nil)))))))))))))
    (pss_one (ps_ret (pv 3)))), ?_⟩
  refine ⟨Nat.zero_le _, fun d hd => ?_⟩
  have s0 := same_new hd (.lst [])
  have small : ∀ z : Int, -(2 ^ 64) < z → z < 2 ^ 64 → (-(2 ^ 64) < z ∧ z < 2 ^ 64) := fun z h1 h2 => ⟨h1, h2⟩
  refine ⟨_, rfl, _, rfl, _, _, rfl, ⟨by decide, by decide, by decide, by decide⟩, for_range (lo := 0) (n := ((40 : Int) - 0).toNat) (fun i σ H' => ∃ (ds : List Int) (o4 o5 o6 o7 : Option V), σ = [some (.ref a), some (.int 0), some (.int 40), some (.ref d), o4, o5, o6, o7] ∧ Same H H' ∧ H' d = some (.lst (ds.map V.int)) ∧ ds.length ≤ 60 * i)
    ⟨[], none, none, none, none, rfl, s0, upd_same, Nat.zero_le _⟩ ?_ ?_⟩
  · rintro i σ H' hi ⟨ds, o4, o5, o6, o7, rfl, s1, h1, hl⟩
    have hi40 : i < 40 := hi
    -- one more digit
    have grow : ∀ (H1 : Hp) (es : List Int) (z : Int), Same H H1 → H1 d = some (.lst (es.map V.int)) → Same H (upd H1 d (.lst (es.map V.int ++ [.int z]))) ∧ (upd H1 d (.lst (es.map V.int ++ [.int z]))) d = some (.lst ((es ++ [z]).map V.int)) := fun H1 es z s e => by
      refine ⟨fun b u e' => ?_, ?_⟩
      · rw [upd_ne (ne_of_none e' hd)]
        exact s _ _ e'
      · rw [upd_same, List.map_append]
        rfl
    refine ⟨_, rfl, _, rfl, a, ns, 0 + (i : Int), rfl, s1.seq hS, by omega, fun z => ?_⟩
    refine ⟨_, rfl, _, _, rfl, rfl, _, rfl, ?_⟩
    refine ite2 (fun c => ?_) (fun c => ?_)
    refine ⟨_, rfl, _, _, rfl, rfl, .inl ⟨by decide, by decide⟩, _, _, rfl, rfl, ?_⟩
    all_goals
      refine ⟨_, rfl, _, _, rfl, rfl, ⟨by decide, by decide, by decide⟩, _, _, rfl, rfl, _, rfl, ?_⟩
      refine ite2 (fun c => ?_) (fun c => ?_)
      · refine ⟨_, rfl, by decide, by decide, for_range (lo := 0) (n := (60 : Int).toNat) (fun j σ H'' => ∃ (es : List Int) (x : Int) (p6 : Option V), σ = [some (.ref a), some (.int 0), some (.int 40), some (.ref d), some (.int (0 + (i : Int))), some (.int x), p6, o7] ∧ Same H H'' ∧ H'' d = some (.lst (es.map V.int)) ∧ es.length ≤ 60 * i + j)
          ⟨ds, _, o6, rfl, s1, h1, hl⟩ ?_ ?_⟩
        · rintro j σ H2 hj ⟨es, x, p6, rfl, s2, h2, hl2⟩
          have hj60 : j < 60 := hj
          refine ⟨_, rfl, _, _, rfl, rfl, _, rfl, ?_⟩
          refine ite2 (fun c => ?_) (fun c => ?_)
          · refine ⟨_, rfl, .inl ⟨rfl, _, SqL.of h2⟩, _, rfl, .inl ⟨_, rfl, _, _, rfl, rfl, (by show (0 : Int) < 1000; decide), d, _, _, rfl, rfl, h2, (by rw [List.length_map]; exact line_lt (by omega)), ?_⟩⟩
            obtain ⟨g1, g2⟩ := grow H2 es (x % 1000) s2 h2
            refine ⟨_, rfl, _, _, rfl, rfl, ⟨by decide, by decide⟩, ?_⟩
            exact ⟨es ++ [x % 1000], x / 1000, _, rfl, g1, g2, by rw [List.length_append, List.length_singleton]; omega⟩
          · exact ⟨es, x, _, rfl, s2, h2, by omega⟩
        · rintro σ H2 ⟨es, x, p6, rfl, s2, h2, hl2⟩
          exact ⟨es, _, _, _, _, rfl, s2, h2, by have : (60 : Int).toNat = 60 := rfl; omega⟩
      · refine ⟨_, rfl, _, _, rfl, rfl, .inr ⟨by decide, by decide⟩, _, rfl, _, _, rfl, rfl, .inr ⟨by decide, by decide⟩, _, _, rfl, rfl, _, _, rfl, rfl, .inl ⟨_, rfl, _, _, rfl, rfl, (by show (0 : Int) < 2147483647; decide), ?_⟩⟩
        refine ⟨_, rfl, by decide, by decide, for_range (lo := 0) (n := (12 : Int).toNat) (fun j σ H'' => ∃ (es : List Int) (x : Int) (p5 p6 : Option V), σ = [some (.ref a), some (.int 0), some (.int 40), some (.ref d), some (.int (0 + (i : Int))), p5, p6, some (.int x)] ∧ Same H H'' ∧ H'' d = some (.lst (es.map V.int)) ∧ es.length ≤ 60 * i + j)
          ⟨ds, _, _, o6, rfl, s1, h1, hl⟩ ?_ ?_⟩
        · rintro j σ H2 hj ⟨es, x, p5, p6, rfl, s2, h2, hl2⟩
          have hj12 : j < 12 := hj
          refine ⟨_, rfl, _, _, rfl, rfl, .inr ⟨by decide, by decide⟩, _, rfl, _, _, rfl, rfl, .inl ⟨by decide, by decide⟩, _, _, rfl, rfl, _, _, rfl, rfl, .inl ⟨_, rfl, _, _, rfl, rfl, (by show (0 : Int) < 2147483647; decide), ?_⟩⟩
          refine ⟨_, rfl, .inl ⟨rfl, _, SqL.of h2⟩, _, rfl, _, _, rfl, rfl, ⟨by decide, by decide⟩, .inl ⟨_, rfl, _, _, rfl, rfl, (by show (0 : Int) < 1000; decide), d, _, _, rfl, rfl, h2, (by rw [List.length_map]; exact line_lt (by omega)), ?_⟩⟩
          exact ⟨es ++ [_], _, _, _, rfl, (grow H2 es _ s2 h2).1, (grow H2 es _ s2 h2).2, by rw [List.length_append, List.length_singleton]; omega⟩
        · rintro σ H2 ⟨es, x, p5, p6, rfl, s2, h2, hl2⟩
          exact ⟨es, _, _, _, _, rfl, s2, h2, by have : (12 : Int).toNat = 12 := rfl; omega⟩
  · rintro σ H' ⟨ds, o4, o5, o6, o7, rfl, s1, h1, hl⟩
    exact ⟨_, rfl, q H' d ds s1 h1⟩
theorem scDr : FnScope ["_law_box", "_law_many", "_law_at"] ["_law_box", "_law_many"] (defScope sDraw) := ⟨rfl, rfl, rfl, by decide +kernel, rfl, by decide +kernel, by decide +kernel⟩
theorem ok_draw {f : Addr} {fd : FuncData} (F : Fun K "_law_draw" "_law_draw" sDraw f fd) (B : Blt mg) : FnOk P w K mg base CX0 1 f fd ["_law_box", "_law_many"] spDraw := by
  refine F.ok scDr (fun vs H Q E h => ?_) (fun cdv A outer s H vs Q E hr h => ?_)
  · obtain ⟨b, c, d, m, rfl, _⟩ := h
    rfl
  obtain ⟨b, c, d, m, rfl, ⟨ds, z, n1, n2, hb, hd, hz⟩, hm, q⟩ := h
  refine ⟨_, pss_cons (ps_set (i := 2) scDr.nd rfl (Or.inl rfl) (pe_ix ix_list (pv 0) pe_int (fun _ _ => rfl)))
    (pss_cons (ps_asg (pe_op op_add (pv 2) pe_int) (pg_sub (pv 0) pe_int set_list))
    (pss_cons (ps_if (pt_cmpR op_lt (pv 2) (pe_callB call_len_seq rfl B.len PySem.boot_len (pa_cons (pe_ix ix_list (pv 0) pe_int (fun _ _ => rfl)) pa_nil)) (nomark _))
      (pss_one (ps_ret (pe_op op_mod (pe_callTy call_int1 (by rfl) B.int PyProof.Rows.boot_int (pa_cons (pe_ix ix_list (pe_ix ix_list (pv 0) pe_int (fun _ _ => rfl)) (pv 2) (fun _ _ => rfl)) pa_nil)) (pv 1)))) pss_nil)
    (pss_one (ps_ret (pe_op op_mod (pe_callTy call_int1 (by rfl) B.int PyProof.Rows.boot_int (pa_cons (pe_op op_add (pe_op op_mul (pv 2) pe_int) pe_int) pa_nil)) (pv 1)))))), ?_⟩
  refine ⟨_, rfl, b, _, _, _, rfl, rfl, SqL.of hb, atI_nat (j := 1) rfl, ?_⟩
  refine ⟨_, rfl, _, _, rfl, rfl, _, rfl, b, _, _, 1, rfl, rfl, hb, rfl, ?_⟩
  have hb' : (upd H b (.lst ([V.ref d, V.int z].set 1 (.int (z + 1))))) b = some (.lst [.ref d, .int (z + 1)]) := upd_same
  have hd' : (upd H b (.lst ([V.ref d, V.int z].set 1 (.int (z + 1))))) d = some (.lst (ds.map V.int)) := by rw [upd_ne n1]; exact hd
  have bx : BoxAt (upd H b (.lst ([V.ref d, V.int z].set 1 (.int (z + 1))))) b c d := ⟨ds, z + 1, n1, n2, hb', hd', by omega⟩
  have bt : But2 b b H (upd H b (.lst ([V.ref d, V.int z].set 1 (.int (z + 1))))) := .upd1
  have hl : (ds.map V.int).length = ds.length := List.length_map _
  refine ⟨_, rfl, _, rfl, b, _, _, _, rfl, rfl, SqL.of hb', atI_nat (j := 0) rfl, d, _, rfl, .inl (SqL.of hd'), _, _, rfl, rfl, _, rfl, ?_⟩
  refine ite2 (fun c => ?_) (fun c => ?_)
  · have c' : z < (((ds.map V.int).length : Nat) : Int) := of_decide_eq_true c
    rw [hl] at c'
    obtain ⟨y, hy⟩ := int_at (ns := ds) hz c'
    refine ⟨_, rfl, b, _, _, _, rfl, rfl, SqL.of hb', atI_nat (j := 0) rfl, _, rfl, d, _, _, _, rfl, rfl, SqL.of hd', hy, .inl ⟨_, rfl, _, rfl, _, _, rfl, rfl, hm, ?_⟩⟩
    exact q _ _ bt bx (Int.emod_nonneg _ (by omega)) (Int.emod_lt_of_pos _ hm)
  · refine ⟨_, rfl, _, _, rfl, rfl, .inr ⟨by decide, by decide⟩, _, _, rfl, rfl, .inl ⟨_, rfl, _, rfl, _, _, rfl, rfl, hm, ?_⟩⟩
    exact q _ _ bt bx (Int.emod_nonneg _ (by omega)) (Int.emod_lt_of_pos _ hm)
end
end Gk
/-! ### the law's expression -/
namespace Gk
open PySem L2
/-- a random expression of depth at most e, whose places are numbered on -/
def spTree (n : Nat) : Sp := fun vs H Q _ => ∃ (b c d : Addr) (e o : Nat), vs = [.ref b, .int (e : Int), .ref c] ∧ e < n ∧ BoxAt H b c d ∧ H c = some (.lst [.int (o : Int)]) ∧
  ∀ (H' : Hp) (t : Tr) (v : V), But2 b c H H' → BoxAt H' b c d → TreeAt H' t v → t.depth ≤ e → Num t (o + 1) → H' c = some (.lst [.int ((o + t.size : Nat) : Int)]) → Q v H'
theorem box_ne {H : Hp} {b c d : Addr} {z : V} (h : BoxAt H b c d) (hc : H c = some (.lst [z])) : b ≠ c := by
  obtain ⟨ds, y, _, _, h3, _⟩ := h
  exact ne_of h3 hc (by intro e; cases e)
theorem box_tups {H H' : Hp} {b c d : Addr} {z : V} (h : BoxAt H b c d) (hc : H c = some (.lst [z])) (k : But2 b c H H') : Tups H H' := by
  obtain ⟨ds, y, _, _, h3, _⟩ := h
  exact k.tups h3 hc
theorem box_new {H : Hp} {b c d : Addr} {z : V} (h : BoxAt H b c d) (hc : H c = some (.lst [z])) {p : Addr} (n : H p = none) : p ≠ b ∧ p ≠ c ∧ p ≠ d := by
  obtain ⟨ds, y, _, _, h3, h4, _⟩ := h
  exact ⟨Ne.symm (ne_of_none h3 n), Ne.symm (ne_of_none hc n), Ne.symm (ne_of_none h4 n)⟩
/-- a kind over one item, over two items -/
structure Over1 (nm : Str) (mk : Tr → Tr) : Prop where
  at_ : ∀ (H : Hp) (t : Tr) (v : V) (a : Addr), H a = some (.tup [.str nm, v]) → TreeAt H t v → TreeAt H (mk t) (.ref a)
  dep : ∀ t, (mk t).depth = t.depth + 1
  num : ∀ t o, Num t o → Num (mk t) o
  siz : ∀ t, (mk t).size = t.size
structure Over2 (nm : Str) (mk : Tr → Tr → Tr) : Prop where
  at_ : ∀ (H : Hp) (t u : Tr) (v w : V) (a i : Addr), H a = some (.tup [.str nm, .ref i]) → H i = some (.tup [v, w]) → TreeAt H t v → TreeAt H u w → TreeAt H (mk t u) (.ref a)
  dep : ∀ t u, (mk t u).depth = max t.depth u.depth + 1
  num : ∀ t u o, Num t o → Num u (o + t.size) → Num (mk t u) o
  siz : ∀ t u, (mk t u).size = t.size + u.size
theorem over_any : Over1 "any" .an := ⟨fun H t v a h1 h2 => ⟨a, v, rfl, h1, h2⟩, fun _ => rfl, fun _ _ h => h, fun _ => rfl⟩
theorem over_some : Over1 "some" .so := ⟨fun H t v a h1 h2 => ⟨a, v, rfl, h1, h2⟩, fun _ => rfl, fun _ _ h => h, fun _ => rfl⟩
theorem over_maybe : Over1 "maybe" .ma := ⟨fun H t v a h1 h2 => ⟨a, v, rfl, h1, h2⟩, fun _ => rfl, fun _ _ h => h, fun _ => rfl⟩
theorem over_choice : Over2 "choice" .ch := ⟨fun H t u v w a i h1 h2 h3 h4 => ⟨a, i, v, w, rfl, h1, h2, h3, h4⟩, fun _ _ => rfl, fun _ _ _ h k => ⟨h, k⟩, fun _ _ => rfl⟩
theorem over_seq : Over2 "sequence" .sq := ⟨fun H t u v w a i h1 h2 h3 h4 => ⟨a, i, v, w, rfl, h1, h2, h3, h4⟩, fun _ _ => rfl, fun _ _ _ h k => ⟨h, k⟩, fun _ _ => rfl⟩
theorem pick1 {r : Int} (h0 : 0 ≤ r) (h3 : r < 3) : ∃ nm mk, atI ([V.str "any", V.str "some", V.str "maybe"] : List V) r = some (V.str nm) ∧ Over1 nm mk := by
  have h : r = 0 ∨ r = 1 ∨ r = 2 := by omega
  rcases h with rfl | rfl | rfl
  · exact ⟨_, _, rfl, over_any⟩
  · exact ⟨_, _, rfl, over_some⟩
  · exact ⟨_, _, rfl, over_maybe⟩
theorem pick2 (r : Int) : ∃ nm mk, atI ([V.str "choice", V.str "sequence"] : List V) (r % 2) = some (V.str nm) ∧ Over2 nm mk := by
  have h : r % 2 = 0 ∨ r % 2 = 1 := by omega
  rcases h with h | h
  · rw [h]
    exact ⟨_, _, rfl, over_choice⟩
  · rw [h]
    exact ⟨_, _, rfl, over_seq⟩
section
variable {P : Program} {w : World} {K : PySem.W.Frag} {mg : Str → Option Value} {base : Heap}
theorem scT : FnScope ["_law_box", "_law_depth", "_law_count", "_law_kind", "_law_items", "_law_k"] ["_law_box", "_law_depth", "_law_count"] (defScope sTree) := ⟨rfl, rfl, rfl, by decide +kernel, rfl, by decide +kernel, by decide +kernel⟩
theorem ok_tree {f g : Addr} {fd gd : FuncData} {n : Nat} (F : Fun K "_law_tree" "_law_tree" sTree f fd) (B : Blt mg) (GD : FnOk P w K mg base CX0 1 g gd ["_law_box", "_law_many"] spDraw) (bD : Binds K gd ["_law_box", "_law_many"] []) (kD : PySem.W.keepIn K (.ref g) = true) (mD : mg "_law_draw" = some (.ref g))
    (GT : FnOk P w K mg base CX0 (n + 1) f fd ["_law_box", "_law_depth", "_law_count"] (spTree n)) (bT : Binds K fd ["_law_box", "_law_depth", "_law_count"] []) (mT : mg "_law_tree" = some (.ref f)) :
    FnOk P w K mg base CX0 (n + 2) f fd ["_law_box", "_law_depth", "_law_count"] (spTree (n + 1)) := by
  refine F.ok scT (fun vs H Q E h => ?_) (fun cdv A outer s H vs Q E hr h => ?_)
  · obtain ⟨b, c, d, e, o, rfl, _⟩ := h
    rfl
  obtain ⟨b, c, d, e, o, rfl, he, hb, hc, q⟩ := h
  have hr1 : Room 1 _ := hr.mono (Nat.le_add_left 1 n)
  refine ⟨_, pss_cons (ps_set (i := 3) scT.nd rfl (Or.inl rfl) (pe_call GD hr1 rfl mD kD bD .nil pass0 (pa_cons (pv 0) (pa_cons pe_int pa_nil))))
    (pss_cons (ps_if (PW.pt (pw_or (pt_cmpR op_eq (pv 1) pe_int (nomark _)) (pw_or (pt_cmpR op_lt (pv 3) pe_int (nomark _)) (pw_or1 (pt_cmpR op_ge (pe_ix ix_list (pv 2) pe_int (fun _ _ => rfl)) pe_int (nomark _))))))
      (pss_cons (ps_asg (pe_op op_add (pe_ix ix_list (pv 2) pe_int (fun _ _ => rfl)) pe_int) (pg_sub (pv 2) pe_int set_list))
        (pss_one (ps_ret (pe_tup (pa_cons pe_str (pa_cons (pe_call GD hr1 rfl mD kD bD .nil pass0 (pa_cons (pv 0) (pa_cons pe_int pa_nil))) (pa_cons (pe_ix ix_list (pv 2) pe_int (fun _ _ => rfl))
          (pa_cons (pe_op op_add (pe_ix ix_list (pv 2) pe_int (fun _ _ => rfl)) (pe_call GD hr1 rfl mD kD bD .nil pass0 (pa_cons (pv 0) (pa_cons pe_int pa_nil)))) (pa_cons (pe_ix ix_list (pv 2) pe_int (fun _ _ => rfl)) pa_nil)))))))))
      pss_nil)
    (pss_cons (ps_if (pt_cmpR op_lt (pv 3) pe_int (nomark _))
      (pss_cons (ps_set (i := 4) scT.nd rfl (Or.inl rfl) (pe_callTy call_tuple_of (by rfl) B.tuple PyProof.Rows.boot_tuple (pa_cons (pe_lc (own := [("_law_k", 5)]) (g := gName 5) (by rfl) scT.nd (pi_range1 rfl B.range (pa_cons pe_int pa_nil)) (blkOk_by (own := [("_law_k", 5)]) (N := ["_law_box", "_law_depth", "_law_count", "_law_kind", "_law_items", "_law_k"]) (sc := defScope sTree) (by decide +kernel))
          (fun _ _ _ _ _ => pg_name (i := 5) scT.nd rfl (Or.inl rfl)) (fun _ _ _ _ _ => pts_nil) (fun _ _ _ _ _ => pe_call GT hr rfl mT F.kp bT .nil pass0 (pa_cons (pv 0) (pa_cons (pe_op op_sub (pv 1) pe_int) (pa_cons (pv 2) pa_nil))))) pa_nil)))
        (pss_one (ps_ret (pe_tup (pa_cons (pe_ix ix_list (pe_lst (pa_cons pe_str (pa_cons pe_str pa_nil))) (pe_op op_mod (pe_callTy call_int1 (by rfl) B.int PyProof.Rows.boot_int (pa_cons (pv 3) pa_nil)) pe_int) (fun _ _ => rfl)) (pa_cons (pv 4) pa_nil))))))
      pss_nil)
    (pss_one (ps_ret (pe_tup (pa_cons (pe_ix ix_list (pe_lst (pa_cons pe_str (pa_cons pe_str (pa_cons pe_str pa_nil)))) (pe_call GD hr1 rfl mD kD bD .nil pass0 (pa_cons (pv 0) (pa_cons pe_int pa_nil))) (fun _ _ => rfl))
      (pa_cons (pe_call GT hr rfl mT F.kp bT .nil pass0 (pa_cons (pv 0) (pa_cons (pe_op op_sub (pv 1) pe_int) (pa_cons (pv 2) pa_nil)))) pa_nil))))))), ?_⟩
  have nbc := box_ne hb hc
  refine ⟨_, rfl, b, c, d, 8, rfl, hb, by decide, fun H1 kd b1 x1 k0 k8 => ?_⟩
  have c1 : H1 c = some (.lst [.int (o : Int)]) := b1 _ _ (Ne.symm nbc) (Ne.symm nbc) hc
  have b1' : But2 b c H H1 := b1.one
  have x1' := x1
  obtain ⟨_, _, _, ndc, _⟩ := x1'
  refine ⟨_, rfl, rfl, _, rfl, ite2 (fun _ => ?_) (fun z0 => ?_)⟩
  rotate_left
  refine ⟨_, rfl, _, _, rfl, rfl, _, rfl, ite2 (fun _ => ?_) (fun _ => ?_)⟩
  rotate_left
  refine ⟨_, rfl, c, _, _, _, rfl, rfl, SqL.of c1, atI_nat (j := 0) rfl, _, _, rfl, rfl, _, rfl, ite2 (fun _ => ?_) (fun _ => ?_)⟩
  rotate_left
  · -- no place: the kinds over items
    have e1 : 1 ≤ e := by
      cases e with
      | zero => exact absurd (decide_eq_true rfl) z0
      | succ e => omega
    have ei : ((e : Int) - 1) = ((e - 1 : Nat) : Int) := by omega
    have hvs : ([V.ref b, V.int ((e : Int) - 1), V.ref c] ++ [] : List V) = [.ref b, .int ((e - 1 : Nat) : Int), .ref c] := by rw [ei]; rfl
    refine ⟨_, rfl, _, _, rfl, rfl, _, rfl, ite2 (fun _ => ?_) (fun _ => ?_)⟩
    · -- two items
      refine ⟨2, rfl, by decide, by decide, fun D hD => ?_⟩
      obtain ⟨nDb, nDc, nDd⟩ := box_new x1 c1 hD
      have bD0 : But2 b c H1 (upd H1 D (.lst [])) := .upd0 hD
      -- the list of the items at D
      refine lc_range (lo := 0) (n := (2 : Int).toNat) (fun i H' => BoxAt H' b c d ∧ But2 b c H1 H' ∧ match i with
        | 0 => H' D = some (.lst []) ∧ H' c = some (.lst [.int (o : Int)])
        | 1 => ∃ t1 v1, H' D = some (.lst [v1]) ∧ TreeAt H' t1 v1 ∧ t1.depth ≤ e - 1 ∧ Num t1 (o + 1) ∧ H' c = some (.lst [.int ((o + t1.size : Nat) : Int)])
        | _ => ∃ t1 v1 t2 v2, H' D = some (.lst [v1, v2]) ∧ TreeAt H' t1 v1 ∧ t1.depth ≤ e - 1 ∧ Num t1 (o + 1) ∧ TreeAt H' t2 v2 ∧ t2.depth ≤ e - 1 ∧ Num t2 (o + 1 + t1.size) ∧ H' c = some (.lst [.int ((o + (t1.size + t2.size) : Nat) : Int)])) ?_ ?_ ?_
      · exact ⟨x1.upd nDb nDd, bD0, upd_same, by rw [upd_ne (Ne.symm nDc)]; exact c1⟩
      · rintro i H2 hi ⟨x2, b2, hm⟩
        match i, hi, hm with
        | 0, _, ⟨hD2, c2⟩ =>
          refine ⟨rfl, ?_⟩
          refine ⟨_, rfl, _, rfl, _, _, rfl, rfl, _, rfl, b, c, d, e - 1, o, hvs, by omega, x2, c2, fun H3 t1 v1 b3 x3 tr3 d3 n3 c3 => ?_⟩
          have hD3 := b3 _ _ nDb nDc hD2
          have t4 : Tups H3 (upd H3 D (.lst [v1])) := (But2.upd1 (p := D) (q := D)).tups hD3 hD3
          refine ⟨[], hD3, by decide, x3.upd nDb nDd, fun a u n1 n2 ea => by rw [upd_ne (ne_of_none ea hD)]; exact b3 _ _ n1 n2 (b2 _ _ n1 n2 ea), t1, v1, upd_same, tr3.keep t4, d3, n3, by rw [upd_ne (Ne.symm nDc)]; exact c3⟩
        | 1, _, ⟨t1, v1, hD2, tr1, d1, n1, c2⟩ =>
          refine ⟨rfl, ?_⟩
          refine ⟨_, rfl, _, rfl, _, _, rfl, rfl, _, rfl, b, c, d, e - 1, o + t1.size, hvs, by omega, x2, c2, fun H3 t2 v2 b3 x3 tr3 d3 n3 c3 => ?_⟩
          have hD3 := b3 _ _ nDb nDc hD2
          have t4 : Tups H3 (upd H3 D (.lst [v1, v2])) := (But2.upd1 (p := D) (q := D)).tups hD3 hD3
          have t3 : Tups H2 H3 := box_tups x2 c2 b3
          refine ⟨[v1], hD3, by show 1 < sizeLine; exact line_lt (by decide), x3.upd nDb nDd, fun a u n1 n2 ea => by rw [upd_ne (ne_of_none ea hD)]; exact b3 _ _ n1 n2 (b2 _ _ n1 n2 ea), t1, v1, t2, v2, upd_same, (tr1.keep t3).keep t4, d1, n1, tr3.keep t4, d3, ?_, ?_⟩
          · rw [show o + 1 + t1.size = o + t1.size + 1 by omega]
            exact n3
          · rw [upd_ne (Ne.symm nDc), c3, Nat.add_assoc]
        | i + 2, hi, _ => exact absurd hi (by show ¬ i + 2 < 2; omega)
      · rintro H2 ⟨x2, b2, t1, v1, t2, v2, hD2, tr1, d1, n1, tr2, d2, n2, c2⟩
        refine ⟨D, _, rfl, .inl ⟨SqL.of hD2, fun i hi => ?_⟩⟩
        have s3 := same_new hi (.tup [v1, v2])
        -- return (['choice', 'sequence'][int(kind) % 2], items)
        refine ⟨line_big (by show 2 ≤ _; decide), fun p hp => ?_⟩
        have s4 := same_new hp (.lst [.str "choice", .str "sequence"])
        obtain ⟨nm, mk, hat, ov⟩ := pick2 kd
        refine ⟨_, rfl, .inl ⟨_, rfl, _, _, rfl, rfl, (by show (0 : Int) < 2; decide), p, _, _, _, rfl, rfl, SqL.of upd_same, hat, _, rfl, line_big (by show 2 ≤ _; decide), fun a ha => ?_⟩⟩
        have s5 := same_new ha (.tup [.str nm, .ref i])
        have sA := s3.trans (s4.trans s5)
        refine q _ (mk t1 t2) (.ref a) (b1'.trans (b2.trans (.of sA))) (x2.keep sA) (ov.at_ _ t1 t2 v1 v2 a i upd_same (s5 _ _ (s4 _ _ upd_same)) (tr1.keep (.of sA)) (tr2.keep (.of sA))) ?_ (ov.num _ _ _ n1 n2) ?_
        · rw [ov.dep]; omega
        · rw [ov.siz]; exact sA _ _ c2
    · -- one item
      refine ⟨line_big (by show 3 ≤ _; decide), fun p hp => ?_⟩
      obtain ⟨nDb, nDc, nDd⟩ := box_new x1 c1 hp
      have s2 := same_new hp (.lst [.str "any", .str "some", .str "maybe"])
      refine ⟨_, rfl, b, c, d, 3, rfl, x1.keep s2, by decide, fun H3 r b3 x3 r0 r3 => ?_⟩
      obtain ⟨nm, mk, hat, ov⟩ := pick1 r0 r3
      have hp3 := b3 _ _ nDb nDb (upd_same (H := H1) (a := p) (o := .lst [.str "any", .str "some", .str "maybe"]))
      have c3 := b3 _ _ (Ne.symm nbc) (Ne.symm nbc) (s2 _ _ c1)
      refine ⟨p, _, _, _, rfl, rfl, SqL.of hp3, hat, ?_⟩
      refine ⟨_, rfl, _, rfl, _, _, rfl, rfl, _, rfl, b, c, d, e - 1, o, hvs, by omega, x3, c3, fun H4 t1 v1 b4 x4 tr4 d4 n4 c4 => ?_⟩
      refine ⟨line_big (by show 2 ≤ _; decide), fun a ha => ?_⟩
      have s5 := same_new ha (.tup [.str nm, v1])
      refine q _ (mk t1) (.ref a) (b1'.trans ((But2.of s2).trans (b3.one.trans (b4.trans (.of s5))))) (x4.keep s5) (ov.at_ _ t1 v1 a upd_same (tr4.keep (.of s5))) ?_ (ov.num _ _ n4) ?_
      · rw [ov.dep]; omega
      · rw [ov.siz]; exact s5 _ _ c4
  all_goals
    -- a place
    have c2 : (upd H1 c (.lst ([V.int (o : Int)].set 0 (.int ((o : Int) + 1))))) c = some (.lst [.int ((o : Int) + 1)]) := upd_same
    have x2 : BoxAt (upd H1 c (.lst ([V.int (o : Int)].set 0 (.int ((o : Int) + 1))))) b c d := x1.upd (Ne.symm nbc) (Ne.symm ndc)
    refine ⟨_, rfl, c, _, _, _, rfl, rfl, SqL.of c1, atI_nat (j := 0) rfl, _, _, rfl, rfl, _, rfl, c, _, _, 0, rfl, rfl, c1, rfl, ?_⟩
    refine ⟨_, rfl, b, c, d, 3, rfl, x2, by decide, fun H3 r3 b3 x3 _ _ => ?_⟩
    have c3 := b3 _ _ (Ne.symm nbc) (Ne.symm nbc) c2
    refine ⟨_, rfl, c, _, _, _, rfl, rfl, SqL.of c3, atI_nat (j := 0) rfl, _, rfl, c, _, _, _, rfl, rfl, SqL.of c3, atI_nat (j := 0) rfl, _, rfl, b, c, d, 2, rfl, x3, by decide, fun H4 r2 b4 x4 _ _ => ?_⟩
    have c4 := b4 _ _ (Ne.symm nbc) (Ne.symm nbc) c3
    refine ⟨_, _, rfl, rfl, _, rfl, c, _, _, _, rfl, rfl, SqL.of c4, atI_nat (j := 0) rfl, line_big (by show 5 ≤ _; decide), fun a ha => ?_⟩
    have s5 := same_new ha (.tup [.str "place", .int r3, .int ((o : Int) + 1), .int ((o : Int) + 1 + r2), .int ((o : Int) + 1)])
    refine q _ (.pl r3 ((o : Int) + 1) ((o : Int) + 1 + r2) (o + 1)) (.ref a) (b1'.trans (But2.upd2.trans (b3.one.trans (b4.one.trans (.of s5))))) (x4.keep s5) ⟨a, rfl, upd_same⟩ (Nat.zero_le _) rfl (s5 _ _ c4)
/-- to any depth -/
theorem tree_all {f g : Addr} {fd gd : FuncData} (F : Fun K "_law_tree" "_law_tree" sTree f fd) (B : Blt mg) (GD : FnOk P w K mg base CX0 1 g gd ["_law_box", "_law_many"] spDraw) (bD : Binds K gd ["_law_box", "_law_many"] []) (kD : PySem.W.keepIn K (.ref g) = true) (mD : mg "_law_draw" = some (.ref g))
    (bT : Binds K fd ["_law_box", "_law_depth", "_law_count"] []) (mT : mg "_law_tree" = some (.ref f)) : ∀ n : Nat, FnOk P w K mg base CX0 (n + 1) f fd ["_law_box", "_law_depth", "_law_count"] (spTree n)
  | 0 => by
    have no : ∀ vs H Q E, ¬ spTree 0 vs H Q E := fun vs H Q E h => by
      obtain ⟨_, _, _, _, _, _, he, _⟩ := h
      exact absurd he (Nat.not_lt_zero _)
    exact ⟨fun vs H Q E h => absurd h (no vs H Q E), fun A outer s H args us vs Q E _ _ _ _ h => absurd h (no vs H Q E)⟩
  | n + 1 => ok_tree F B GD bD kD mD (tree_all F B GD bD kD mD bT mT n) bT mT
theorem scO : FnScope ["_law_numbers", "_law_found", "_law_number"] ["_law_numbers"] (defScope sOnce) := ⟨rfl, rfl, rfl, by decide +kernel, rfl, by decide +kernel, by decide +kernel⟩
end
def spOnce : Sp := fun vs H Q _ => ∃ (a : Addr) (ns : List Nat), vs = [.ref a] ∧ H a = some (.lst (natL ns)) ∧ ns.length ≤ 1000000 ∧ ∀ (H' : Hp) (r : Addr), Same H H' → H r = none → H' r = some (.lst (natL (once ns))) → Q (.ref r) H'
section
variable {P : Program} {w : World} {K : PySem.W.Frag} {mg : Str → Option Value} {base : Heap}
theorem ok_once {f : Addr} {fd : FuncData} (F : Fun K "_law_once" "_law_once" sOnce f fd) : FnOk P w K mg base CX0 1 f fd ["_law_numbers"] spOnce := by
  refine F.ok scO (fun vs H Q E h => ?_) (fun cdv A outer s H vs Q E hr h => ?_)
  · obtain ⟨a, ns, rfl, _⟩ := h
    rfl
  obtain ⟨a, ns, rfl, ha, hl, q⟩ := h
  refine ⟨_, pss_cons (ps_set (i := 1) scO.nd rfl (Or.inl rfl) (pe_lst pa_nil))
    (pss_cons (ps_for PassesOwn.never rfl (pi_list (pv 0)) (pg_name (i := 2) scO.nd rfl (Or.inl rfl))
      (pss_one (ps_if (pt_cmpR op_notIn_seq (pv 2) (pv 1) (by rfl)) (pss_one (ps_expr (pe_bm PySem.F.plainAttrs_list PySem.F.slot_list_append PySem.F.type_list_append mt_append (pv 1) (pa_cons (pv 2) pa_nil)))) pss_nil)))
    (pss_one (ps_ret (pv 1)))), ?_⟩
  refine ⟨Nat.zero_le _, fun r hr0 => ?_⟩
  have s0 := same_new hr0 (.lst [])
  refine ⟨_, rfl, a, rfl, ⟨_, SqL.of (s0 _ _ ha)⟩, for_list (K := K) (a := a) (xs := natL ns) (fun i σ H' => ∃ o2 : Option V, σ = [some (.ref a), some (.ref r), o2] ∧ Same H H' ∧ H' r = some (.lst (natL (once (ns.take i)))))
    ⟨none, rfl, s0, upd_same⟩ (fun i σ H' _ ⟨_, _, s1, _⟩ => SqL.of (s1 _ _ ha)) ?_ ?_⟩
  · rintro i x σ H' hx ⟨o2, rfl, s1, h1⟩
    obtain ⟨n, hn, rfl⟩ := natL_get hx
    have hol := once_len (ns.take i)
    rw [List.length_take] at hol
    refine ⟨_, rfl, _, rfl, r, _, rfl, .inl (SqL.of h1), rfl, natL_flat _, _, rfl, ?_⟩
    have e1 : (if true = true then !inV (V.int (n : Int)) (natL (once (ns.take i))) else inV (V.int (n : Int)) (natL (once (ns.take i)))) = !decide (n ∈ once (ns.take i)) := by
      rw [if_pos rfl, inV_nat]
    rw [e1]
    by_cases hm : n ∈ once (ns.take i)
    · rw [decide_eq_true hm]
      refine iteF ?_
      refine ⟨_, rfl, s1, ?_⟩
      rw [h1, take_snoc hn, once_snoc, if_pos hm]
    · rw [decide_eq_false hm]
      refine iteT ?_
      refine ⟨_, rfl, .inl ⟨rfl, _, SqL.of h1⟩, _, rfl, r, _, _, rfl, rfl, h1, (by rw [natL_length]; exact line_lt (by omega)), _, rfl, fun b u e => ?_, ?_⟩
      · rw [upd_ne (ne_of_none e hr0)]
        exact s1 _ _ e
      · rw [upd_same, take_snoc hn, once_snoc, if_neg hm, natL_app]
        rfl
  · rintro σ H' ⟨o2, rfl, s1, h1⟩
    rw [natL_length, List.take_length] at h1
    exact ⟨_, rfl, q H' r s1 hr0 h1⟩
end
end Gk
/-! ### the law's places, the law's walk over the expression -/
namespace Gk
open PySem L2
/-! sizes -/
def gB (d : Nat) : Nat := 2 ^ 2 ^ d
theorem gB_succ (d : Nat) : gB (d + 1) = gB d * gB d := by
  unfold gB
  rw [Nat.pow_succ, Nat.pow_mul, Nat.pow_two]
theorem gB_mono {d e : Nat} (h : d ≤ e) : gB d ≤ gB e := Nat.pow_le_pow_right (by decide) (Nat.pow_le_pow_right (by decide) h)
theorem gB_two (d : Nat) : 2 ≤ gB d := by
  have h : gB 0 ≤ gB d := gB_mono (Nat.zero_le d)
  exact h
theorem beh_ran {row : List Nat} {t : Tr} {s : List Nat} (hs : ∀ i ∈ s, i ≤ row.length) : ∀ j ∈ behM row t s, j ≤ row.length := fun j hj => by
  obtain ⟨i, hi, r⟩ := (mem_beh t s hs j).mp hj
  exact (rd_le t i j (hs i hi) r).2
theorem once_ran {N : Nat} {xs : List Nat} (h : ∀ i ∈ xs, i ≤ N) : (once xs).length ≤ N + 1 := nodup_bound (N + 1) _ (once_nodup xs) fun x hx => Nat.lt_succ_of_le (h x (mem_once.mp hx))
theorem loop_ran {N : Nat} {f : List Nat → List Nat} (hf : ∀ s, (∀ i ∈ s, i ≤ N) → ∀ i ∈ f s, i ≤ N) : ∀ (n : Nat) (s fo : List Nat), (∀ i ∈ s, i ≤ N) → (∀ i ∈ fo, i ≤ N) → ∀ i ∈ loopB f n s fo, i ≤ N
  | 0, _, _, _, h2 => h2
  | n + 1, s, fo, h1, h2 => by
    have h3 : ∀ i ∈ once (f s), i ≤ N := fun i hi => hf s h1 i (mem_once.mp hi)
    exact loop_ran hf n _ _ h3 fun i hi => (List.mem_append.mp hi).elim (h2 i) (h3 i)
theorem beh_len {row : List Nat} (hr : row.length ≤ 4) : ∀ (t : Tr) (s : List Nat), (∀ i ∈ s, i ≤ row.length) → (behM row t s).length ≤ gB t.depth * max s.length 5
  | .pl p l m c, s, _ => by
    show ((s.filter fun i => decide (row[i]? = some c)).map (· + 1)).length ≤ gB 0 * max s.length 5
    rw [List.length_map]
    have h1 := List.length_filter_le (fun i => decide (row[i]? = some c)) s
    have h2 : 1 * max s.length 5 ≤ gB 0 * max s.length 5 := Nat.mul_le_mul_right _ (by decide)
    omega
  | .ch a b, s, hs => by
    show (behM row a s ++ behM row b s).length ≤ gB (max a.depth b.depth + 1) * max s.length 5
    have h1 := beh_len hr a s hs
    have h2 := beh_len hr b s hs
    have h3 : gB a.depth * max s.length 5 ≤ gB (max a.depth b.depth) * max s.length 5 := Nat.mul_le_mul_right _ (gB_mono (Nat.le_max_left _ _))
    have h4 : gB b.depth * max s.length 5 ≤ gB (max a.depth b.depth) * max s.length 5 := Nat.mul_le_mul_right _ (gB_mono (Nat.le_max_right _ _))
    have h5 : 2 * (gB (max a.depth b.depth) * max s.length 5) ≤ gB (max a.depth b.depth) * (gB (max a.depth b.depth) * max s.length 5) := Nat.mul_le_mul_right _ (gB_two _)
    rw [List.length_append, gB_succ, Nat.mul_assoc]
    omega
  | .sq a b, s, hs => by
    show (behM row b (behM row a s)).length ≤ gB (max a.depth b.depth + 1) * max s.length 5
    have h1 := beh_len hr a s hs
    have h2 := beh_len hr b (behM row a s) (beh_ran hs)
    have h3 : gB a.depth * max s.length 5 ≤ gB (max a.depth b.depth) * max s.length 5 := Nat.mul_le_mul_right _ (gB_mono (Nat.le_max_left _ _))
    have h6 : 1 * max s.length 5 ≤ gB (max a.depth b.depth) * max s.length 5 := Nat.mul_le_mul_right _ (Nat.le_trans (by decide) (gB_two _))
    have h7 : max (behM row a s).length 5 ≤ gB (max a.depth b.depth) * max s.length 5 := by omega
    have h4 : gB b.depth * max (behM row a s).length 5 ≤ gB (max a.depth b.depth) * (gB (max a.depth b.depth) * max s.length 5) := Nat.mul_le_mul (gB_mono (Nat.le_max_right _ _)) h7
    rw [gB_succ, Nat.mul_assoc]
    omega
  | .an a, s, hs => by
    show (once (loopB (behM row a) (row.length + 1) s s)).length ≤ gB (a.depth + 1) * max s.length 5
    have h1 := once_ran (loop_ran (f := behM row a) (fun s hs => beh_ran (t := a) hs) (row.length + 1) s s hs hs)
    have h2 : 1 * max s.length 5 ≤ gB (a.depth + 1) * max s.length 5 := Nat.mul_le_mul_right _ (Nat.le_trans (by decide) (gB_two _))
    omega
  | .so a, s, hs => by
    show (once (loopB (behM row a) (row.length + 1) s [])).length ≤ gB (a.depth + 1) * max s.length 5
    have h1 := once_ran (loop_ran (f := behM row a) (fun s hs => beh_ran (t := a) hs) (row.length + 1) s [] hs (fun i hi => nomatch hi))
    have h2 : 1 * max s.length 5 ≤ gB (a.depth + 1) * max s.length 5 := Nat.mul_le_mul_right _ (Nat.le_trans (by decide) (gB_two _))
    omega
  | .ma a, s, hs => by
    show (s ++ behM row a s).length ≤ gB (a.depth + 1) * max s.length 5
    have h1 := beh_len hr a s hs
    have h5 : 2 * (gB a.depth * max s.length 5) ≤ gB a.depth * (gB a.depth * max s.length 5) := Nat.mul_le_mul_right _ (gB_two _)
    have h6 : 1 * max s.length 5 ≤ gB a.depth * max s.length 5 := Nat.mul_le_mul_right _ (Nat.le_trans (by decide) (gB_two _))
    rw [List.length_append, gB_succ, Nat.mul_assoc]
    omega
/-- the loop's state behind n turns -/
def itB (f : List Nat → List Nat) (s fo : List Nat) : Nat → List Nat × List Nat
  | 0 => (s, fo)
  | n + 1 => (once (f (itB f s fo n).1), (itB f s fo n).2 ++ once (f (itB f s fo n).1))
theorem itB_shift (f : List Nat → List Nat) : ∀ (n : Nat) (s fo : List Nat), itB f s fo (n + 1) = itB f (once (f s)) (fo ++ once (f s)) n
  | 0, _, _ => rfl
  | n + 1, s, fo => by
    show (once (f (itB f s fo (n + 1)).1), (itB f s fo (n + 1)).2 ++ once (f (itB f s fo (n + 1)).1)) = _
    rw [itB_shift f n s fo]
    rfl
theorem loop_it (f : List Nat → List Nat) : ∀ (n : Nat) (s fo : List Nat), loopB f n s fo = (itB f s fo n).2
  | 0, _, _ => rfl
  | n + 1, s, fo => by
    rw [itB_shift]
    exact loop_it f n _ _
theorem it_ran {N : Nat} {f : List Nat → List Nat} (hf : ∀ s, (∀ i ∈ s, i ≤ N) → ∀ i ∈ f s, i ≤ N) {s fo : List Nat} (hs : ∀ i ∈ s, i ≤ N) : ∀ n : Nat, (∀ i ∈ (itB f s fo n).1, i ≤ N) ∧ (itB f s fo n).1.length ≤ max s.length (N + 1) ∧ (itB f s fo n).2.length ≤ fo.length + n * (N + 1)
  | 0 => ⟨hs, Nat.le_max_left _ _, by show fo.length ≤ fo.length + 0 * (N + 1); omega⟩
  | n + 1 => by
    obtain ⟨h1, h2, h3⟩ := it_ran hf (fo := fo) hs n
    have h4 := hf _ h1
    have h5 := once_ran h4
    refine ⟨fun i hi => h4 i (mem_once.mp hi), Nat.le_trans h5 (Nat.le_max_right _ _), ?_⟩
    show ((itB f s fo n).2 ++ once (f (itB f s fo n).1)).length ≤ _
    rw [List.length_append, Nat.succ_mul]
    omega
/-! names of kinds -/
theorem pl_pl : decide (V.str "place" = V.str "place") = true := by decide +kernel
theorem an_pl : decide (V.str "any" = V.str "place") = false := by decide +kernel
theorem so_pl : decide (V.str "some" = V.str "place") = false := by decide +kernel
theorem ma_pl : decide (V.str "maybe" = V.str "place") = false := by decide +kernel
theorem ch_pl : decide (V.str "choice" = V.str "place") = false := by decide +kernel
theorem sq_pl : decide (V.str "sequence" = V.str "place") = false := by decide +kernel
theorem ch_ch : decide (V.str "choice" = V.str "choice") = true := by decide +kernel
theorem sq_ch : decide (V.str "sequence" = V.str "choice") = false := by decide +kernel
theorem an_ch : decide (V.str "any" = V.str "choice") = false := by decide +kernel
theorem so_ch : decide (V.str "some" = V.str "choice") = false := by decide +kernel
theorem ma_ch : decide (V.str "maybe" = V.str "choice") = false := by decide +kernel
theorem sq_sq : decide (V.str "sequence" = V.str "sequence") = true := by decide +kernel
theorem an_sq : decide (V.str "any" = V.str "sequence") = false := by decide +kernel
theorem so_sq : decide (V.str "some" = V.str "sequence") = false := by decide +kernel
theorem ma_sq : decide (V.str "maybe" = V.str "sequence") = false := by decide +kernel
theorem ma_ma : decide (V.str "maybe" = V.str "maybe") = true := by decide +kernel
theorem an_ma : decide (V.str "any" = V.str "maybe") = false := by decide +kernel
theorem so_ma : decide (V.str "some" = V.str "maybe") = false := by decide +kernel
theorem in_an : inV (V.str "any") [V.str "any", V.str "some", V.str "maybe"] = true := by decide +kernel
theorem in_so : inV (V.str "some") [V.str "any", V.str "some", V.str "maybe"] = true := by decide +kernel
theorem in_ma : inV (V.str "maybe") [V.str "any", V.str "some", V.str "maybe"] = true := by decide +kernel
theorem in_ch : inV (V.str "choice") [V.str "any", V.str "some", V.str "maybe"] = false := by decide +kernel
theorem in_sq : inV (V.str "sequence") [V.str "any", V.str "some", V.str "maybe"] = false := by decide +kernel
/-! places -/
def spPlaces (n : Nat) : Sp := fun vs H Q _ => ∃ (t : Tr) (v : V), vs = [v] ∧ TreeAt H t v ∧ t.depth < n ∧ t.depth < 5 ∧ ∀ (H' : Hp) (r : Addr) (pvs : List V), Same H H' → H' r = some (.lst pvs) → All2 (PlAt H') t.leaves pvs → Q (.ref r) H'
/-- three roads -/
theorem tree_roads {H : Hp} {t : Tr} {v : V} (h : TreeAt H t v) :
    (∃ (ca : Addr) (q : Pl), v = .ref ca ∧ t.leaves = [q] ∧ H ca = some (.tup [.str "place", .int q.1, .int q.2.1, .int q.2.2.1, .int (q.2.2.2 : Int)])) ∨
    (∃ (ca : Addr) (vx : V) (u : Tr) (nm : Str), v = .ref ca ∧ H ca = some (.tup [.str nm, vx]) ∧ TreeAt H u vx ∧ t.leaves = u.leaves ∧ u.depth + 1 = t.depth ∧ decide (V.str nm = V.str "place") = false ∧ inV (V.str nm) [V.str "any", V.str "some", V.str "maybe"] = true) ∨
    (∃ (ca ci : Addr) (vx vy : V) (a b : Tr) (nm : Str), v = .ref ca ∧ H ca = some (.tup [.str nm, .ref ci]) ∧ H ci = some (.tup [vx, vy]) ∧ TreeAt H a vx ∧ TreeAt H b vy ∧ t.leaves = a.leaves ++ b.leaves ∧ a.depth < t.depth ∧ b.depth < t.depth ∧ decide (V.str nm = V.str "place") = false ∧ inV (V.str nm) [V.str "any", V.str "some", V.str "maybe"] = false) := by
  cases t with
  | pl p l m c => obtain ⟨a, h1, h2⟩ := h; exact .inl ⟨a, (p, l, m, c), h1, rfl, h2⟩
  | an u => obtain ⟨a, vx, h1, h2, h3⟩ := h; exact .inr (.inl ⟨a, vx, u, _, h1, h2, h3, rfl, rfl, an_pl, in_an⟩)
  | so u => obtain ⟨a, vx, h1, h2, h3⟩ := h; exact .inr (.inl ⟨a, vx, u, _, h1, h2, h3, rfl, rfl, so_pl, in_so⟩)
  | ma u => obtain ⟨a, vx, h1, h2, h3⟩ := h; exact .inr (.inl ⟨a, vx, u, _, h1, h2, h3, rfl, rfl, ma_pl, in_ma⟩)
  | ch a b => obtain ⟨ca, ci, vx, vy, h1, h2, h3, h4, h5⟩ := h; exact .inr (.inr ⟨ca, ci, vx, vy, a, b, _, h1, h2, h3, h4, h5, rfl, (by show a.depth < max a.depth b.depth + 1; omega), (by show b.depth < max a.depth b.depth + 1; omega), ch_pl, in_ch⟩)
  | sq a b => obtain ⟨ca, ci, vx, vy, h1, h2, h3, h4, h5⟩ := h; exact .inr (.inr ⟨ca, ci, vx, vy, a, b, _, h1, h2, h3, h4, h5, rfl, (by show a.depth < max a.depth b.depth + 1; omega), (by show b.depth < max a.depth b.depth + 1; omega), sq_pl, in_sq⟩)
section
variable {P : Program} {w : World} {K : PySem.W.Frag} {mg : Str → Option Value} {base : Heap}
theorem scPs : FnScope ["_law_tree_here", "_law_found", "_law_item"] ["_law_tree_here"] (defScope sPlaces) := ⟨rfl, rfl, rfl, by decide +kernel, rfl, by decide +kernel, by decide +kernel⟩
theorem ok_places {f : Addr} {fd : FuncData} {n : Nat} (F : Fun K "_law_places" "_law_places" sPlaces f fd) (G : FnOk P w K mg base CX0 n f fd ["_law_tree_here"] (spPlaces n)) (bG : Binds K fd ["_law_tree_here"] []) (mG : mg "_law_places" = some (.ref f)) :
    FnOk P w K mg base CX0 (n + 1) f fd ["_law_tree_here"] (spPlaces (n + 1)) := by
  refine F.ok scPs (fun vs H Q E h => ?_) (fun cdv A outer s H vs Q E hr h => ?_)
  · obtain ⟨t, v, rfl, _⟩ := h
    rfl
  obtain ⟨t, v, rfl, hT, hd, h5, q⟩ := h
  refine ⟨_, pss_cons (ps_if (pt_cmpR op_eq (pe_ix ix_tup (pv 0) pe_int (fun _ _ => rfl)) pe_str (nomark _)) (pss_one (ps_ret (pe_lst (pa_cons (pv 0) pa_nil)))) pss_nil)
    (pss_cons (ps_if (pt_cmpR op_in_seq (pe_ix ix_tup (pv 0) pe_int (fun _ _ => rfl)) (pe_tup (pa_cons pe_str (pa_cons pe_str (pa_cons pe_str pa_nil)))) (by rfl)) (pss_one (ps_ret (pe_call G hr rfl mG F.kp bG .nil pass0 (pa_cons (pe_ix ix_tup (pv 0) pe_int (fun _ _ => rfl)) pa_nil)))) pss_nil)
    (pss_cons (ps_set (i := 1) scPs.nd rfl (Or.inl rfl) (pe_lst pa_nil))
    (pss_cons (ps_for PassesOwn.never rfl (pi_tup (pe_ix ix_tup (pv 0) pe_int (fun _ _ => rfl))) (pg_name (i := 2) scPs.nd rfl (Or.inl rfl))
      (pss_one (ps_set (i := 1) scPs.nd rfl (Or.inl rfl) (pe_op op_cat (pv 1) (pe_call G hr rfl mG F.kp bG .nil pass0 (pa_cons (pv 2) pa_nil))))))
    (pss_one (ps_ret (pv 1)))))), ?_⟩
  have hsz := size16 h5
  have hlv := leaves_length t
  rcases tree_roads hT with ⟨ca, pq, rfl, el, hca⟩ | ⟨ca, vx, u, nm, rfl, hca, hTx, el, ed, e1, e2⟩ | ⟨ca, ci, vx, vy, ta, tb, nm, rfl, hca, hci, hTx, hTy, el, da, db, e1, e2⟩
  · refine ⟨_, rfl, ca, _, _, _, rfl, rfl, SqT.of hca, atI_nat (j := 0) rfl, rfl, _, rfl, ?_⟩
    rw [pl_pl]
    refine iteT ?_
    refine ⟨_, rfl, line_big (by show 1 ≤ _; decide), fun r hr' => ?_⟩
    have s1 := same_new hr' (.lst [.ref ca])
    refine q _ r _ s1 upd_same ?_
    rw [el]
    exact All2.snoc (xs := []) (vs := []) All2.nil ⟨ca, rfl, s1 _ _ hca⟩
  · refine ⟨_, rfl, ca, _, _, _, rfl, rfl, SqT.of hca, atI_nat (j := 0) rfl, rfl, _, rfl, ?_⟩
    rw [e1]
    refine iteF ?_
    refine ⟨_, rfl, ca, _, _, _, rfl, rfl, SqT.of hca, atI_nat (j := 0) rfl, line_big (by show 3 ≤ _; decide), fun p hp => ?_⟩
    have s1 := same_new hp (.tup [.str "any", .str "some", .str "maybe"])
    refine ⟨p, _, rfl, .inr (SqT.of upd_same), rfl, rfl, _, rfl, ?_⟩
    rw [if_neg (by decide), e2]
    refine iteT ?_
    refine ⟨_, rfl, ca, _, _, _, rfl, rfl, SqT.of (s1 _ _ hca), atI_nat (j := 1) rfl, u, vx, rfl, hTx.keep (.of s1), by omega, by omega, fun H' r pvs s2 h1 h2 => ?_⟩
    exact q H' r pvs (s1.trans s2) h1 (by rw [el]; exact h2)
  · have hla := leaves_length ta
    have hlb := leaves_length tb
    have hll : ta.leaves.length + tb.leaves.length ≤ 16 := by
      rw [el, List.length_append] at hlv
      omega
    refine ⟨_, rfl, ca, _, _, _, rfl, rfl, SqT.of hca, atI_nat (j := 0) rfl, rfl, _, rfl, ?_⟩
    rw [e1]
    refine iteF ?_
    refine ⟨_, rfl, ca, _, _, _, rfl, rfl, SqT.of hca, atI_nat (j := 0) rfl, line_big (by show 3 ≤ _; decide), fun p hp => ?_⟩
    have s1 := same_new hp (.tup [.str "any", .str "some", .str "maybe"])
    refine ⟨p, _, rfl, .inr (SqT.of upd_same), rfl, rfl, _, rfl, ?_⟩
    rw [if_neg (by decide), e2]
    refine iteF ?_
    refine ⟨Nat.zero_le _, fun f0 hf0 => ?_⟩
    have s2 := s1.trans (same_new hf0 (.lst []))
    refine ⟨_, rfl, ca, _, _, _, rfl, rfl, SqT.of (s2 _ _ hca), atI_nat (j := 1) rfl, ci, rfl, ⟨_, SqT.of (s2 _ _ hci)⟩, ?_⟩
    refine for_tup (K := K) (a := ci) (xs := [vx, vy]) (fun i σ H' => ∃ (fo : Addr) (pvs : List V) (o2 : Option V), σ = [some (.ref ca), some (.ref fo), o2] ∧ Same H H' ∧ H' fo = some (.lst pvs) ∧ match i with
      | 0 => pvs = []
      | 1 => All2 (PlAt H') ta.leaves pvs
      | _ => All2 (PlAt H') (ta.leaves ++ tb.leaves) pvs) ?_ ?_ ?_ ?_
    · exact ⟨f0, [], none, rfl, s2, upd_same, rfl⟩
    · rintro i σ H' _ ⟨_, _, _, _, s3, _⟩
      exact SqT.of (s3 _ _ hci)
    · rintro i x σ H' hx ⟨fo, pvs, o2, rfl, s3, h3, hm⟩
      match i, hx, hm with
      | 0, hx, hm =>
        cases hx
        subst hm
        refine ⟨_, rfl, _, rfl, ta, _, rfl, hTx.keep (.of s3), by omega, by omega, fun H2 r qvs s4 h4 h5 => ?_⟩
        refine ⟨fo, r, _, _, rfl, rfl, s4 _ _ h3, h4, (by have := h5.1; show 0 + qvs.length ≤ _; exact line_big (by omega)), fun z hz => ?_⟩
        exact ⟨z, _, _, rfl, s3.trans (s4.trans (same_new hz _)), upd_same, h5.mono fun _ _ y => y.keep (.of (same_new hz _))⟩
      | 1, hx, hm =>
        cases hx
        refine ⟨_, rfl, _, rfl, tb, _, rfl, hTy.keep (.of s3), by omega, by omega, fun H2 r qvs s4 h4 h5 => ?_⟩
        refine ⟨fo, r, _, _, rfl, rfl, s4 _ _ h3, h4, (by have := h5.1; have := hm.1; exact line_big (by omega)), fun z hz => ?_⟩
        exact ⟨z, _, _, rfl, s3.trans (s4.trans (same_new hz _)), upd_same, ((hm.mono fun _ _ y => y.keep (.of s4)).append h5).mono fun _ _ y => y.keep (.of (same_new hz _))⟩
      | i + 2, hx, _ => simp at hx
    · rintro σ H' ⟨fo, pvs, o2, rfl, s3, h3, hm⟩
      exact ⟨_, rfl, q H' fo pvs s3 h3 (by rw [el]; exact hm)⟩
theorem places_all {f : Addr} {fd : FuncData} (F : Fun K "_law_places" "_law_places" sPlaces f fd) (bG : Binds K fd ["_law_tree_here"] []) (mG : mg "_law_places" = some (.ref f)) : ∀ n : Nat, FnOk P w K mg base CX0 n f fd ["_law_tree_here"] (spPlaces n)
  | 0 => by
    have no : ∀ vs H Q E, ¬ spPlaces 0 vs H Q E := fun vs H Q E h => by
      obtain ⟨_, _, _, _, he, _⟩ := h
      exact absurd he (Nat.not_lt_zero _)
    exact ⟨fun vs H Q E h => absurd h (no vs H Q E), fun A outer s H args us vs Q E _ _ _ _ h => absurd h (no vs H Q E)⟩
  | n + 1 => ok_places F (places_all F bG mG n) bG mG
end
end Gk
/-! ### behind -/
namespace Gk
open PySem L2
def rLenS (K : PySem.W.Frag) : List V → Hp → VK → Prop := fun xs H Q => ∃ p ys, xs = [.ref p] ∧ (SqL K H p ys ∨ SqT K H p ys) ∧ Q (.int ys.length) H
theorem len_seq {X : Cx} : CallR X (.builtin "len") (rLenS X.K) := call_len_seq
def spBehind (n : Nat) : Sp := fun vs H Q _ => ∃ (t : Tr) (v : V) (rw st : Addr) (row s : List Nat), vs = [v, .ref rw, .ref st] ∧ TreeAt H t v ∧ t.depth < n ∧ H rw = some (.lst (natL row)) ∧ row.length ≤ 4 ∧ H st = some (.lst (natL s)) ∧ (∀ i ∈ s, i ≤ row.length) ∧
  gB t.depth * max s.length 5 ≤ 1000000 ∧ ∀ (H' : Hp) (r : Addr), Same H H' → H' r = some (.lst (natL (behM row t s))) → Q (.ref r) H'
theorem dec_nat (x c : Nat) : decide (V.int (x : Int) = V.int (c : Int)) = decide (x = c) := by
  by_cases h : x = c
  · subst h
    rw [decide_eq_true rfl, decide_eq_true rfl]
  · rw [decide_eq_false h]
    refine decide_eq_false fun e => h ?_
    have := V.int.inj e
    omega
theorem small_sub {d e m : Nat} (h : gB e * m ≤ 1000000) (hd : d ≤ e) : gB d * m ≤ 1000000 := Nat.le_trans (Nat.mul_le_mul_right _ (gB_mono hd)) h
theorem small_self {d m : Nat} (h : gB d * m ≤ 1000000) : m ≤ 500000 := by
  have : 2 * m ≤ gB d * m := Nat.mul_le_mul_right _ (gB_two d)
  omega
section
variable {P : Program} {w : World} {K : PySem.W.Frag} {mg : Str → Option Value} {base : Heap}
theorem scB : FnScope ["_law_tree_here", "_law_row", "_law_starts", "_law_found", "_law_item", "_law_turn", "_law_at"] ["_law_tree_here", "_law_row", "_law_starts"] (defScope sBehind) := ⟨rfl, rfl, rfl, by decide +kernel, rfl, by decide +kernel, by decide +kernel⟩
theorem ok_behind {f g : Addr} {fd gd : FuncData} {n : Nat} (F : Fun K "_law_behind" "_law_behind" sBehind f fd) (B : Blt mg) (GO : FnOk P w K mg base CX0 1 g gd ["_law_numbers"] spOnce) (bO : Binds K gd ["_law_numbers"] []) (kO : PySem.W.keepIn K (.ref g) = true) (mO : mg "_law_once" = some (.ref g))
    (G : FnOk P w K mg base CX0 (n + 1) f fd ["_law_tree_here", "_law_row", "_law_starts"] (spBehind n)) (bG : Binds K fd ["_law_tree_here", "_law_row", "_law_starts"] []) (mG : mg "_law_behind" = some (.ref f)) :
    FnOk P w K mg base CX0 (n + 2) f fd ["_law_tree_here", "_law_row", "_law_starts"] (spBehind (n + 1)) := by
  refine F.ok scB (fun vs H Q E h => ?_) (fun cdv A outer s H vs Q E hr h => ?_)
  · obtain ⟨t, v, rw, st, row, s, rfl, _⟩ := h
    rfl
  obtain ⟨t, v, ra, sa, row, ss, rfl, hT, hd, hrow, hr4, hst, hss, hg, q⟩ := h
  have hr1 : Room 1 _ := hr.mono (Nat.le_add_left 1 n)
  refine ⟨_, pss_cons (ps_if (pt_cmpR op_eq (pe_ix ix_tup (pv 0) pe_int (fun _ _ => rfl)) pe_str (nomark _))
      (pss_one (ps_ret (pe_lc (own := [("_law_at", 6)]) (g := gName 6) (by rfl) scB.nd (pi_list (pv 2)) (blkOk_by (own := [("_law_at", 6)]) (N := ["_law_tree_here", "_law_row", "_law_starts", "_law_found", "_law_item", "_law_turn", "_law_at"]) (sc := defScope sBehind) (by decide +kernel))
        (fun _ _ _ _ _ => pg_name (i := 6) scB.nd rfl (Or.inl rfl))
        (fun _ _ _ _ _ => pts_one (PW.pt (pw_and (pt_cmpR op_lt (pv 6) (pe_callB (r := rLenS K) len_seq rfl B.len PySem.boot_len (pa_cons (pv 1) pa_nil)) (nomark _)) (pw_and1 (pt_cmpR op_eq (pe_ix (r := rIxL K) ix_list (pv 1) (pv 6) (fun _ _ => rfl)) (pe_ix (r := rIxT K) ix_tup (pv 0) pe_int (fun _ _ => rfl)) (nomark _))))))
        (fun _ _ _ _ _ => pe_op op_add (pv 6) pe_int)))) pss_nil)
    (pss_cons (ps_if (pt_cmpR op_eq (pe_ix ix_tup (pv 0) pe_int (fun _ _ => rfl)) pe_str (nomark _))
      (pss_cons (ps_set (i := 3) scB.nd rfl (Or.inl rfl) (pe_lst pa_nil))
        (pss_cons (ps_for PassesOwn.never rfl (pi_tup (pe_ix ix_tup (pv 0) pe_int (fun _ _ => rfl))) (pg_name (i := 4) scB.nd rfl (Or.inl rfl))
          (pss_one (ps_set (i := 3) scB.nd rfl (Or.inl rfl) (pe_op op_cat (pv 3) (pe_call G hr rfl mG F.kp bG .nil pass0 (pa_cons (pv 4) (pa_cons (pv 1) (pa_cons (pv 2) pa_nil))))))))
        (pss_one (ps_ret (pv 3))))) pss_nil)
    (pss_cons (ps_if (pt_cmpR op_eq (pe_ix ix_tup (pv 0) pe_int (fun _ _ => rfl)) pe_str (nomark _))
      (pss_cons (ps_for PassesOwn.never rfl (pi_tup (pe_ix ix_tup (pv 0) pe_int (fun _ _ => rfl))) (pg_name (i := 4) scB.nd rfl (Or.inl rfl))
          (pss_one (ps_set (i := 2) scB.nd rfl (Or.inl rfl) (pe_call G hr rfl mG F.kp bG .nil pass0 (pa_cons (pv 4) (pa_cons (pv 1) (pa_cons (pv 2) pa_nil)))))))
        (pss_one (ps_ret (pv 2)))) pss_nil)
    (pss_cons (ps_if (pt_cmpR op_eq (pe_ix ix_tup (pv 0) pe_int (fun _ _ => rfl)) pe_str (nomark _))
      (pss_one (ps_ret (pe_op op_cat (pv 2) (pe_call G hr rfl mG F.kp bG .nil pass0 (pa_cons (pe_ix ix_tup (pv 0) pe_int (fun _ _ => rfl)) (pa_cons (pv 1) (pa_cons (pv 2) pa_nil))))))) pss_nil)
    (pss_cons (ps_set (i := 3) scB.nd rfl (Or.inl rfl) (pe_lst pa_nil))
    (pss_cons (ps_if (pt_cmpR op_eq (pe_ix ix_tup (pv 0) pe_int (fun _ _ => rfl)) pe_str (nomark _))
      (pss_one (ps_set (i := 3) scB.nd rfl (Or.inl rfl) (pe_callTy call_list_of (by rfl) B.list PyProof.Rows.boot_list (pa_cons (pv 2) pa_nil)))) pss_nil)
    (pss_cons (ps_for PassesOwn.never rfl (pi_range1 rfl B.range (pa_cons (pe_op op_add (pe_callB call_len_seq rfl B.len PySem.boot_len (pa_cons (pv 1) pa_nil)) pe_int) pa_nil)) (pg_name (i := 5) scB.nd rfl (Or.inl rfl))
      (pss_cons (ps_set (i := 2) scB.nd rfl (Or.inl rfl) (pe_call GO hr1 rfl mO kO bO .nil pass0 (pa_cons (pe_call G hr rfl mG F.kp bG .nil pass0 (pa_cons (pe_ix ix_tup (pv 0) pe_int (fun _ _ => rfl)) (pa_cons (pv 1) (pa_cons (pv 2) pa_nil)))) pa_nil)))
      (pss_one (ps_set (i := 3) scB.nd rfl (Or.inl rfl) (pe_op op_cat (pv 3) (pv 2))))))
    (pss_one (ps_ret (pe_call GO hr1 rfl mO kO bO .nil pass0 (pa_cons (pv 3) pa_nil)))))))))), ?_⟩
  have hm : max ss.length 5 ≤ 500000 := small_self hg
  -- the loop of any and some: from a list of what was found
  have rep : ∀ (u : Tr) (ca : Addr) (vx : V) (nm : Str) (H1 : Hp) (f0 : Addr) (fo : List Nat) (o4 o5 o6 : Option V), v = .ref ca → H ca = some (.tup [.str nm, vx]) → TreeAt H u vx → u.depth < n → gB u.depth * max ss.length 5 ≤ 1000000 → Same H H1 → H1 f0 = some (.lst (natL fo)) → fo.length ≤ ss.length →
      (∀ (H' : Hp) (r : Addr), Same H H' → H' r = some (.lst (natL (once (loopB (behM row u) (row.length + 1) ss fo)))) → Q (.ref r) H') →
      tSeq (tFor (iRng1 (tCons (tOp (rI0 fun i j => .int (i + j)) (tCB (rLenS K) (tCons (tVar 1) tNil)) (tC (.int 1))) tNil)) (gName 5)
        (tSeq (tAsg (tCall spOnce [] E0 (tCons (tCall (spBehind n) [] E0 (tCons (tOp (rIxT K) (tVar 0) (tC (.int 1))) (tCons (tVar 1) (tCons (tVar 2) tNil)))) tNil)) (gName 2)) (tAsg (tOp rCat (tVar 3) (tVar 2)) (gName 3))))
        (tRet (tCall spOnce [] E0 (tCons (tVar 3) tNil))) { nx := fun _ H' => Q .non H', rt := Q } [some v, some (.ref ra), some (.ref sa), some (.ref f0), o4, o5, o6] H1 := fun u ca vx nm H1 f0 fo o4 o5 o6 ev hca hTx du hgu s1 hf0 hfo k => by
    subst ev
    have hran : ∀ s, (∀ i ∈ s, i ≤ row.length) → ∀ i ∈ behM row u s, i ≤ row.length := fun s hs => beh_ran hs
    refine ⟨_, rfl, ra, _, rfl, .inl (SqL.of (s1 _ _ hrow)), _, _, rfl, rfl, _, rfl, by omega, by rw [natL_length]; omega, ?_⟩
    refine for_range (lo := 0) (n := ((((natL row).length : Nat) : Int) + 1).toNat) (fun i σ H' => ∃ (sb fb : Addr) (o5 : Option V), σ = [some (.ref ca), some (.ref ra), some (.ref sb), some (.ref fb), o4, o5, o6] ∧ Same H H' ∧ H' sb = some (.lst (natL (itB (behM row u) ss fo i).1)) ∧ H' fb = some (.lst (natL (itB (behM row u) ss fo i).2)))
      ⟨sa, f0, o5, rfl, s1, s1 _ _ hst, hf0⟩ ?_ ?_
    · rintro i σ H2 hi ⟨sb, fb, p5, rfl, s2, hsb, hfb⟩
      rw [natL_length] at hi
      obtain ⟨r1, r2, r3⟩ := it_ran hran (fo := fo) hss i
      have hmx : max (itB (behM row u) ss fo i).1.length 5 ≤ max ss.length 5 := by omega
      have hgi : gB u.depth * max (itB (behM row u) ss fo i).1.length 5 ≤ 1000000 := Nat.le_trans (Nat.mul_le_mul_left _ hmx) hgu
      have hbl := beh_len hr4 u _ r1
      have hi5 : i * (row.length + 1) ≤ 5 * 5 := Nat.mul_le_mul (by omega) (by omega)
      refine ⟨_, rfl, ca, _, _, _, rfl, rfl, SqT.of (s2 _ _ hca), atI_nat (j := 1) rfl, _, rfl, _, rfl, u, vx, ra, sb, row, _, rfl, hTx.keep (.of s2), du, s2 _ _ hrow, hr4, hsb, r1, hgi, fun H3 b3 s3 h3 => ?_⟩
      refine ⟨b3, _, rfl, h3, by omega, fun H4 b4 s4 _ h4 => ?_⟩
      have hol := once_ran (hran _ r1)
      refine ⟨_, rfl, _, rfl, fb, b4, _, _, rfl, rfl, s4 _ _ (s3 _ _ hfb), h4, (by rw [natL_length, natL_length]; exact line_big (by omega)), fun z hz => ?_⟩
      have s5 := same_new hz (.lst (natL (itB (behM row u) ss fo i).2 ++ natL (once (behM row u (itB (behM row u) ss fo i).1))))
      refine ⟨b4, z, _, rfl, s2.trans (s3.trans (s4.trans s5)), s5 _ _ h4, ?_⟩
      rw [upd_same, ← natL_app]
      rfl
    · rintro σ H2 ⟨sb, fb, p5, rfl, s2, hsb, hfb⟩
      have en : ((((natL row).length : Nat) : Int) + 1).toNat = row.length + 1 := by rw [natL_length]; omega
      rw [en] at hfb
      obtain ⟨_, _, r3⟩ := it_ran hran (fo := fo) hss (row.length + 1)
      have hi5 : (row.length + 1) * (row.length + 1) ≤ 5 * 5 := Nat.mul_le_mul (by omega) (by omega)
      refine ⟨_, rfl, fb, _, rfl, hfb, by omega, fun H3 r s3 _ h3 => ?_⟩
      refine k H3 r (s2.trans s3) ?_
      rw [loop_it]
      exact h3
  cases t with
  | pl pp ll mm cc =>
    obtain ⟨ca, rfl, hca⟩ := hT
    refine ⟨_, rfl, ca, _, _, _, rfl, rfl, SqT.of hca, atI_nat (j := 0) rfl, rfl, _, rfl, ?_⟩
    rw [pl_pl]
    refine iteT ?_
    refine ⟨_, rfl, sa, rfl, ⟨_, SqL.of hst⟩, fun D hD => ?_⟩
    refine lc_list (K := K) (a := sa) (xs := natL ss) (fun i H' => Same H H' ∧ H' D = some (.lst (natL (((ss.take i).filter fun j => decide (row[j]? = some cc)).map (· + 1))))) ⟨same_new hD _, upd_same⟩ (fun i H' _ h => SqL.of (h.1 _ _ hst)) ?_ ?_
    · rintro i x H' hx ⟨h1, h2⟩
      obtain ⟨j, hj, rfl⟩ := natL_get hx
      have hlen : (((ss.take i).filter fun j => decide (row[j]? = some cc)).map (· + 1)).length ≤ ss.length := by
        rw [List.length_map]
        refine Nat.le_trans (List.length_filter_le _ _) ?_
        rw [List.length_take]
        omega
      refine ⟨rfl, _, rfl, _, rfl, ra, _, rfl, .inl (SqL.of (h1 _ _ hrow)), _, _, rfl, rfl, _, rfl, ?_⟩
      rw [natL_length]
      -- not there
      have out : row[j]? ≠ some cc → Same H H' ∧ H' D = some (.lst (natL (((ss.take (i + 1)).filter fun j => decide (row[j]? = some cc)).map (· + 1)))) := fun hne => by
        refine ⟨h1, ?_⟩
        rw [h2, take_snoc hj, List.filter_append]
        have e : [j].filter (fun j => decide (row[j]? = some cc)) = [] := by
          rw [List.filter_cons, if_neg (by rw [decide_eq_false hne]; decide)]
          rfl
        rw [e, List.append_nil]
      refine ite2 (fun c => ?_) (fun c => ?_)
      · have c' : j < row.length := by have := of_decide_eq_true c; omega
        obtain ⟨x, hx'⟩ : ∃ x, row[j]? = some x := ⟨row[j], List.getElem?_eq_getElem c'⟩
        refine ⟨_, rfl, _, rfl, ra, _, _, _, rfl, rfl, SqL.of (h1 _ _ hrow), atI_nat (natL_at hx'), _, rfl, ca, _, _, _, rfl, rfl, SqT.of (h1 _ _ hca), atI_nat (j := 4) rfl, rfl, _, rfl, ?_⟩
        rw [dec_nat]
        refine ite2 (fun c => ?_) (fun c => ?_)
        · have ex : x = cc := of_decide_eq_true c
          subst ex
          refine ⟨_, rfl, _, _, rfl, rfl, _, h2, (by rw [natL_length]; exact line_lt (by omega)), fun b u e => ?_, ?_⟩
          · rw [upd_ne (ne_of_none e hD)]
            exact h1 _ _ e
          · have e : [j].filter (fun j => decide (row[j]? = some x)) = [j] := by
              rw [List.filter_cons, if_pos (decide_eq_true hx')]
              rfl
            rw [upd_same, take_snoc hj, List.filter_append, e, List.map_append, natL_app]
            rfl
        · refine out fun e => c (decide_eq_true ?_)
          rw [hx'] at e
          exact Option.some.inj e
      · have c' : ¬ j < row.length := fun h => c (decide_eq_true (by omega))
        refine iteF (out fun e => c' (List.getElem?_eq_some_iff.mp e).1)
    · rintro H' ⟨h1, h2⟩
      rw [natL_length, List.take_length] at h2
      exact q H' D h1 h2
  | ch ta tb =>
    obtain ⟨ca, ci, vx, vy, rfl, hca, hci, hTx, hTy⟩ := hT
    have hd' : max ta.depth tb.depth + 1 < n + 1 := hd
    have hga : gB ta.depth * max ss.length 5 ≤ 1000000 := small_sub hg (by show ta.depth ≤ max ta.depth tb.depth + 1; omega)
    have hgb : gB tb.depth * max ss.length 5 ≤ 1000000 := small_sub hg (by show tb.depth ≤ max ta.depth tb.depth + 1; omega)
    have hla := beh_len hr4 ta ss hss
    have hlb := beh_len hr4 tb ss hss
    refine ⟨_, rfl, ca, _, _, _, rfl, rfl, SqT.of hca, atI_nat (j := 0) rfl, rfl, _, rfl, ?_⟩
    rw [ch_pl]
    refine iteF ?_
    refine ⟨_, rfl, ca, _, _, _, rfl, rfl, SqT.of hca, atI_nat (j := 0) rfl, rfl, _, rfl, ?_⟩
    rw [ch_ch]
    refine iteT ?_
    refine ⟨Nat.zero_le _, fun f0 hf0 => ?_⟩
    have s2 := same_new hf0 (.lst [])
    refine ⟨_, rfl, ca, _, _, _, rfl, rfl, SqT.of (s2 _ _ hca), atI_nat (j := 1) rfl, ci, rfl, ⟨_, SqT.of (s2 _ _ hci)⟩, ?_⟩
    refine for_tup (K := K) (a := ci) (xs := [vx, vy]) (fun i σ H' => ∃ (fo : Addr) (o4 : Option V), σ = [some (.ref ca), some (.ref ra), some (.ref sa), some (.ref fo), o4, none, none] ∧ Same H H' ∧ H' fo = some (.lst (natL (match i with
      | 0 => []
      | 1 => behM row ta ss
      | _ => behM row ta ss ++ behM row tb ss)))) ?_ ?_ ?_ ?_
    · exact ⟨f0, none, rfl, s2, upd_same⟩
    · rintro i σ H' _ ⟨_, _, _, s3, _⟩
      exact SqT.of (s3 _ _ hci)
    · rintro i x σ H' hx ⟨fo, o4, rfl, s3, h3⟩
      match i, hx, h3 with
      | 0, hx, h3 =>
        cases hx
        refine ⟨_, rfl, _, rfl, _, rfl, _, rfl, ta, _, ra, sa, row, ss, rfl, hTx.keep (.of s3), by omega, s3 _ _ hrow, hr4, s3 _ _ hst, hss, hga, fun H2 r s4 h4 => ?_⟩
        refine ⟨fo, r, _, _, rfl, rfl, s4 _ _ h3, h4, (by show 0 + _ ≤ _; rw [natL_length]; exact line_big (by omega)), fun z hz => ?_⟩
        exact ⟨z, _, rfl, s3.trans (s4.trans (same_new hz _)), upd_same⟩
      | 1, hx, h3 =>
        cases hx
        refine ⟨_, rfl, _, rfl, _, rfl, _, rfl, tb, _, ra, sa, row, ss, rfl, hTy.keep (.of s3), by omega, s3 _ _ hrow, hr4, s3 _ _ hst, hss, hgb, fun H2 r s4 h4 => ?_⟩
        refine ⟨fo, r, _, _, rfl, rfl, s4 _ _ h3, h4, (by rw [natL_length, natL_length]; show (behM row ta ss).length + _ ≤ _; exact line_big (by omega)), fun z hz => ?_⟩
        refine ⟨z, _, rfl, s3.trans (s4.trans (same_new hz _)), ?_⟩
        rw [upd_same]
        show some (HO.lst (natL (behM row ta ss) ++ natL (behM row tb ss))) = some (HO.lst (natL (behM row ta ss ++ behM row tb ss)))
        rw [natL_app]
      | i + 2, hx, _ => simp at hx
    · rintro σ H' ⟨fo, o4, rfl, s3, h3⟩
      exact ⟨_, rfl, q H' fo s3 h3⟩
  | sq ta tb =>
    obtain ⟨ca, ci, vx, vy, rfl, hca, hci, hTx, hTy⟩ := hT
    have hd' : max ta.depth tb.depth + 1 < n + 1 := hd
    have hg' : gB (max ta.depth tb.depth + 1) * max ss.length 5 ≤ 1000000 := hg
    have hga : gB ta.depth * max ss.length 5 ≤ 1000000 := small_sub hg (by show ta.depth ≤ max ta.depth tb.depth + 1; omega)
    have hla := beh_len hr4 ta ss hss
    have hlm : gB ta.depth * max ss.length 5 ≤ gB (max ta.depth tb.depth) * max ss.length 5 := Nat.mul_le_mul_right _ (gB_mono (Nat.le_max_left _ _))
    have h6 : 1 * max ss.length 5 ≤ gB (max ta.depth tb.depth) * max ss.length 5 := Nat.mul_le_mul_right _ (Nat.le_trans (by decide) (gB_two _))
    have h7 : max (behM row ta ss).length 5 ≤ gB (max ta.depth tb.depth) * max ss.length 5 := by omega
    have hgb : gB tb.depth * max (behM row ta ss).length 5 ≤ 1000000 := by
      rw [gB_succ, Nat.mul_assoc] at hg'
      exact Nat.le_trans (Nat.mul_le_mul (gB_mono (Nat.le_max_right _ _)) h7) hg'
    refine ⟨_, rfl, ca, _, _, _, rfl, rfl, SqT.of hca, atI_nat (j := 0) rfl, rfl, _, rfl, ?_⟩
    rw [sq_pl]
    refine iteF ?_
    refine ⟨_, rfl, ca, _, _, _, rfl, rfl, SqT.of hca, atI_nat (j := 0) rfl, rfl, _, rfl, ?_⟩
    rw [sq_ch]
    refine iteF ?_
    refine ⟨_, rfl, ca, _, _, _, rfl, rfl, SqT.of hca, atI_nat (j := 0) rfl, rfl, _, rfl, ?_⟩
    rw [sq_sq]
    refine iteT ?_
    refine ⟨_, rfl, ca, _, _, _, rfl, rfl, SqT.of hca, atI_nat (j := 1) rfl, ci, rfl, ⟨_, SqT.of hci⟩, ?_⟩
    refine for_tup (K := K) (a := ci) (xs := [vx, vy]) (fun i σ H' => ∃ (sb : Addr) (o4 : Option V), σ = [some (.ref ca), some (.ref ra), some (.ref sb), none, o4, none, none] ∧ Same H H' ∧ H' sb = some (.lst (natL (match i with
      | 0 => ss
      | 1 => behM row ta ss
      | _ => behM row tb (behM row ta ss))))) ?_ ?_ ?_ ?_
    · exact ⟨sa, none, rfl, Same.refl _, hst⟩
    · rintro i σ H' _ ⟨_, _, _, s3, _⟩
      exact SqT.of (s3 _ _ hci)
    · rintro i x σ H' hx ⟨sb, o4, rfl, s3, h3⟩
      match i, hx, h3 with
      | 0, hx, h3 =>
        cases hx
        refine ⟨_, rfl, _, rfl, _, rfl, ta, _, ra, sb, row, ss, rfl, hTx.keep (.of s3), by omega, s3 _ _ hrow, hr4, h3, hss, hga, fun H2 r s4 h4 => ?_⟩
        exact ⟨r, _, rfl, s3.trans s4, h4⟩
      | 1, hx, h3 =>
        cases hx
        refine ⟨_, rfl, _, rfl, _, rfl, tb, _, ra, sb, row, behM row ta ss, rfl, hTy.keep (.of s3), by omega, s3 _ _ hrow, hr4, h3, beh_ran hss, hgb, fun H2 r s4 h4 => ?_⟩
        exact ⟨r, _, rfl, s3.trans s4, h4⟩
      | i + 2, hx, _ => simp at hx
    · rintro σ H' ⟨sb, o4, rfl, s3, h3⟩
      exact ⟨_, rfl, q H' sb s3 h3⟩
  | ma u =>
    obtain ⟨ca, vx, rfl, hca, hTx⟩ := hT
    have hd' : u.depth + 1 < n + 1 := hd
    have hgu : gB u.depth * max ss.length 5 ≤ 1000000 := small_sub hg (by show u.depth ≤ u.depth + 1; omega)
    have hla := beh_len hr4 u ss hss
    refine ⟨_, rfl, ca, _, _, _, rfl, rfl, SqT.of hca, atI_nat (j := 0) rfl, rfl, _, rfl, ?_⟩
    rw [ma_pl]
    refine iteF ?_
    refine ⟨_, rfl, ca, _, _, _, rfl, rfl, SqT.of hca, atI_nat (j := 0) rfl, rfl, _, rfl, ?_⟩
    rw [ma_ch]
    refine iteF ?_
    refine ⟨_, rfl, ca, _, _, _, rfl, rfl, SqT.of hca, atI_nat (j := 0) rfl, rfl, _, rfl, ?_⟩
    rw [ma_sq]
    refine iteF ?_
    refine ⟨_, rfl, ca, _, _, _, rfl, rfl, SqT.of hca, atI_nat (j := 0) rfl, rfl, _, rfl, ?_⟩
    rw [ma_ma]
    refine iteT ?_
    refine ⟨_, rfl, _, rfl, ca, _, _, _, rfl, rfl, SqT.of hca, atI_nat (j := 1) rfl, _, rfl, _, rfl, u, vx, ra, sa, row, ss, rfl, hTx, by omega, hrow, hr4, hst, hss, hgu, fun H2 r s4 h4 => ?_⟩
    refine ⟨sa, r, _, _, rfl, rfl, s4 _ _ hst, h4, (by rw [natL_length, natL_length]; exact line_big (by omega)), fun z hz => ?_⟩
    refine q _ z (s4.trans (same_new hz _)) ?_
    rw [upd_same, ← natL_app]
    rfl
  | an u =>
    obtain ⟨ca, vx, rfl, hca, hTx⟩ := hT
    have hd' : u.depth + 1 < n + 1 := hd
    have hgu : gB u.depth * max ss.length 5 ≤ 1000000 := small_sub hg (by show u.depth ≤ u.depth + 1; omega)
    refine ⟨_, rfl, ca, _, _, _, rfl, rfl, SqT.of hca, atI_nat (j := 0) rfl, rfl, _, rfl, ?_⟩
    rw [an_pl]
    refine iteF ?_
    refine ⟨_, rfl, ca, _, _, _, rfl, rfl, SqT.of hca, atI_nat (j := 0) rfl, rfl, _, rfl, ?_⟩
    rw [an_ch]
    refine iteF ?_
    refine ⟨_, rfl, ca, _, _, _, rfl, rfl, SqT.of hca, atI_nat (j := 0) rfl, rfl, _, rfl, ?_⟩
    rw [an_sq]
    refine iteF ?_
    refine ⟨_, rfl, ca, _, _, _, rfl, rfl, SqT.of hca, atI_nat (j := 0) rfl, rfl, _, rfl, ?_⟩
    rw [an_ma]
    refine iteF ?_
    refine ⟨Nat.zero_le _, fun f0 hf0 => ?_⟩
    have s2 := same_new hf0 (.lst [])
    refine ⟨_, rfl, ca, _, _, _, rfl, rfl, SqT.of (s2 _ _ hca), atI_nat (j := 0) rfl, rfl, _, rfl, ?_⟩
    rw [an_an]
    refine iteT ?_
    refine ⟨_, rfl, sa, _, rfl, .inl (SqL.of (s2 _ _ hst)), fun f1 hf1 => ?_⟩
    have s3 := s2.trans (same_new hf1 (.lst (natL ss)))
    exact rep u ca vx _ _ f1 ss none none none rfl hca hTx (by omega) hgu s3 upd_same (Nat.le_refl _) q
  | so u =>
    obtain ⟨ca, vx, rfl, hca, hTx⟩ := hT
    have hd' : u.depth + 1 < n + 1 := hd
    have hgu : gB u.depth * max ss.length 5 ≤ 1000000 := small_sub hg (by show u.depth ≤ u.depth + 1; omega)
    refine ⟨_, rfl, ca, _, _, _, rfl, rfl, SqT.of hca, atI_nat (j := 0) rfl, rfl, _, rfl, ?_⟩
    rw [so_pl]
    refine iteF ?_
    refine ⟨_, rfl, ca, _, _, _, rfl, rfl, SqT.of hca, atI_nat (j := 0) rfl, rfl, _, rfl, ?_⟩
    rw [so_ch]
    refine iteF ?_
    refine ⟨_, rfl, ca, _, _, _, rfl, rfl, SqT.of hca, atI_nat (j := 0) rfl, rfl, _, rfl, ?_⟩
    rw [so_sq]
    refine iteF ?_
    refine ⟨_, rfl, ca, _, _, _, rfl, rfl, SqT.of hca, atI_nat (j := 0) rfl, rfl, _, rfl, ?_⟩
    rw [so_ma]
    refine iteF ?_
    refine ⟨Nat.zero_le _, fun f0 hf0 => ?_⟩
    have s2 := same_new hf0 (.lst [])
    refine ⟨_, rfl, ca, _, _, _, rfl, rfl, SqT.of (s2 _ _ hca), atI_nat (j := 0) rfl, rfl, _, rfl, ?_⟩
    rw [so_an]
    refine iteF ?_
    exact rep u ca vx _ _ f0 [] none none none rfl hca hTx (by omega) hgu s2 upd_same (Nat.zero_le _) q
theorem behind_all {f g : Addr} {fd gd : FuncData} (F : Fun K "_law_behind" "_law_behind" sBehind f fd) (B : Blt mg) (GO : FnOk P w K mg base CX0 1 g gd ["_law_numbers"] spOnce) (bO : Binds K gd ["_law_numbers"] []) (kO : PySem.W.keepIn K (.ref g) = true) (mO : mg "_law_once" = some (.ref g))
    (bG : Binds K fd ["_law_tree_here", "_law_row", "_law_starts"] []) (mG : mg "_law_behind" = some (.ref f)) : ∀ n : Nat, FnOk P w K mg base CX0 (n + 1) f fd ["_law_tree_here", "_law_row", "_law_starts"] (spBehind n)
  | 0 => by
    have no : ∀ vs H Q E, ¬ spBehind 0 vs H Q E := fun vs H Q E h => by
      obtain ⟨_, _, _, _, _, _, _, _, he, _⟩ := h
      exact absurd he (Nat.not_lt_zero _)
    exact ⟨fun vs H Q E h => absurd h (no vs H Q E), fun A outer s H args us vs Q E _ _ _ _ h => absurd h (no vs H Q E)⟩
  | n + 1 => ok_behind F B GO bO kO mO (behind_all F B GO bO kO mO bG mG n) bG mG
end
end Gk
/-! ### led, rows -/
namespace Gk
open PySem L2
theorem inV_bl : ∀ bs : List Bool, inV (.bl true) (bs.map V.bl) = bs.any id
  | [] => rfl
  | b :: bs => by
    have ih := inV_bl bs
    show (eqV (.bl b) (.bl true) || inV (.bl true) (bs.map V.bl)) = (b || bs.any id)
    rw [ih]
    cases b <;> rfl
theorem bl_flat (bs : List Bool) : (bs.map V.bl).all flatV = true := by
  rw [List.all_map, List.all_eq_true]
  intro x _
  rfl
theorem moves_len {t : Tr} {keys : List Key} (K : KeysOk t keys) (h : t.size ≤ 16) : (movesM t keys).length ≤ 17 * 17 := by
  have hol := once_len keys
  have hk := K.1
  refine Nat.le_trans (flat_len (B := 17) _ fun s hs => ?_) ?_
  · have hs' := List.mem_range.mp hs
    rw [List.length_map]
    have := keys_len K (s := s) (by omega)
    omega
  · rw [List.length_range]
    exact Nat.mul_le_mul_right 17 (by omega)
def spLed : Sp := fun vs H Q _ => ∃ (wy ra : Addr) (t : Tr) (keys : List Key) (row : List Nat), vs = [.ref wy, .ref ra] ∧ MachAt H wy t keys ∧ t.size ≤ 16 ∧ H ra = some (.lst (natL row)) ∧ row.length ≤ 4 ∧
  ∀ H' : Hp, Same H H' → Q (.bl (ledM (endsM keys) (movesM t keys) row)) H'
/-- a row of at most n numbers -/
def RowV (H : Hp) (n : Nat) (v : V) : Prop := ∃ (a : Addr) (row : List Nat), v = .ref a ∧ H a = some (.lst (natL row)) ∧ row.length ≤ n
def spRows : Sp := fun vs H Q _ => ∃ (ca : Addr) (cs : List Nat) (n : Nat), vs = [.ref ca, .int (n : Int)] ∧ H ca = some (.lst (natL cs)) ∧ cs.length ≤ 6 ∧ n ≤ 4 ∧
  ∀ (H' : Hp) (r : Addr) (rvs : List V), Same H H' → H' r = some (.lst rvs) → (∀ v ∈ rvs, RowV H' n v) → Q (.ref r) H'
theorem RowV.keep {H H' : Hp} {n m : Nat} {v : V} (k : Same H H') (h : n ≤ m) : RowV H n v → RowV H' m v := fun ⟨a, row, h1, h2, h3⟩ => ⟨a, row, h1, k _ _ h2, Nat.le_trans h3 h⟩
section
variable {P : Program} {w : World} {K : PySem.W.Frag} {mg : Str → Option Value} {base : Heap}
theorem scLd : FnScope ["_law_ways", "_law_row", "_law_states", "_law_cost", "_law_move", "_law_state"] ["_law_ways", "_law_row"] (defScope sLed) := ⟨rfl, rfl, rfl, by decide +kernel, rfl, by decide +kernel, by decide +kernel⟩
theorem ok_led {f g : Addr} {fd gd : FuncData} (F : Fun K "_law_led" "_law_led" sLed f fd) (GO : FnOk P w K mg base CX0 1 g gd ["_law_numbers"] spOnce) (bO : Binds K gd ["_law_numbers"] []) (kO : PySem.W.keepIn K (.ref g) = true) (mO : mg "_law_once" = some (.ref g)) :
    FnOk P w K mg base CX0 2 f fd ["_law_ways", "_law_row"] spLed := by
  refine F.ok scLd (fun vs H Q E h => ?_) (fun cdv A outer s H vs Q E hr h => ?_)
  · obtain ⟨wy, ra, t, keys, row, rfl, _⟩ := h
    rfl
  obtain ⟨wy, ra, t, keys, row, rfl, ⟨ea, ma, mvs, hw, he, hm, hmv, hK⟩, hsz, hrow, hr4, q⟩ := h
  refine ⟨_, pss_cons (ps_set (i := 2) scLd.nd rfl (Or.inr rfl) (pe_lst (pa_cons pe_int pa_nil)))
    (pss_cons (ps_for PassesOwn.never rfl (pi_list (pv 1)) (pg_name (i := 3) scLd.nd rfl (Or.inr rfl))
      (pss_one (ps_set (i := 2) scLd.nd rfl (Or.inr rfl) (pe_call GO hr rfl mO kO bO .nil pass0 (pa_cons
        (pe_lc (own := [("_law_move", 4)]) (g := gName 4) (by rfl) scLd.nd (pi_tup (pe_ix ix_tup (pv 0) pe_int (fun _ _ => rfl))) (blkOk_by (own := [("_law_move", 4)]) (N := ["_law_ways", "_law_row", "_law_states", "_law_cost", "_law_move", "_law_state"]) (sc := defScope sLed) (by decide +kernel))
          (fun _ _ _ _ _ => pg_name (i := 4) scLd.nd rfl (Or.inl rfl))
          (fun _ _ _ _ _ => pts_one (PW.pt (pw_and (pt_cmpR (r := rIn K false) op_in_seq (pe_ix (r := rIxT K) ix_tup (pv 4) pe_int (fun _ _ => rfl)) (pv 2) (by rfl)) (pw_and1 (pt_cmpR op_eq (pe_ix (r := rIxT K) ix_tup (pv 4) pe_int (fun _ _ => rfl)) (pv 3) (nomark _))))))
          (fun _ _ _ _ _ => pe_ix (r := rIxT K) ix_tup (pv 4) pe_int (fun _ _ => rfl))) pa_nil)))))
    (pss_one (ps_ret (pe_cmpR op_in_seq pe_bl (pe_lc (own := [("_law_state", 5)]) (g := gName 5) (by rfl) scLd.nd (pi_list (pv 2)) (blkOk_by (own := [("_law_state", 5)]) (N := ["_law_ways", "_law_row", "_law_states", "_law_cost", "_law_move", "_law_state"]) (sc := defScope sLed) (by decide +kernel))
          (fun _ _ _ _ _ => pg_name (i := 5) scLd.nd rfl (Or.inl rfl)) (fun _ _ _ _ _ => pts_nil)
          (fun _ _ _ _ _ => pe_ix (r := rIxT K) ix_tup (pe_ix (r := rIxT K) ix_tup (pv 0) pe_int (fun _ _ => rfl)) (pv 5) (fun _ _ => rfl))) (by rfl))))), ?_⟩
  have hml := moves_len hK hsz
  have hpos : 0 < (endsM keys).length := by
    have h1 := (cls_get (key_mem (hK.get (k := 0) (by omega)).1)).2
    rw [head_zero hK] at h1
    show 0 < ((once keys).map (·.1)).length
    rw [List.length_map]
    exact h1
  have hmvl := hmv.1
  refine ⟨line_big (by show 1 ≤ _; decide), fun s0 hs0 => ?_⟩
  have sS := same_new hs0 (.lst [.int 0])
  refine ⟨_, rfl, ra, rfl, ⟨_, SqL.of (sS _ _ hrow)⟩, for_list (K := K) (a := ra) (xs := natL row) (fun i σ H' => ∃ (sa : Addr) (o3 : Option V), σ = [some (.ref wy), some (.ref ra), some (.ref sa), o3, none, none] ∧ Same H H' ∧ H' sa = some (.lst (natL ((row.take i).foldl (stepM (movesM t keys)) [0]))) ∧
      (∀ z ∈ (row.take i).foldl (stepM (movesM t keys)) [0], z < (endsM keys).length) ∧ ((row.take i).foldl (stepM (movesM t keys)) [0]).length ≤ 1000)
    ⟨s0, none, rfl, sS, upd_same, (fun z hz => by rw [List.mem_singleton.mp hz]; exact hpos), (by show 1 ≤ 1000; decide)⟩ (fun i σ H' _ ⟨_, _, _, s1, _⟩ => SqL.of (s1 _ _ hrow)) ?_ ?_⟩
  · rintro i x σ H' hx ⟨sa, o3, rfl, s1, h1, hz1, hl1⟩
    obtain ⟨c, hc, rfl⟩ := natL_get hx
    generalize hss : (row.take i).foldl (stepM (movesM t keys)) [0] = ss at h1 hz1 hl1
    have enext : (row.take (i + 1)).foldl (stepM (movesM t keys)) [0] = stepM (movesM t keys) ss c := by
      rw [take_snoc hc, List.foldl_append, hss]
      rfl
    refine ⟨_, rfl, wy, _, _, _, rfl, rfl, SqT.of (s1 _ _ hw), atI_nat (j := 1) rfl, ma, rfl, ⟨_, SqT.of (s1 _ _ hm)⟩, fun D hD => ?_⟩
    refine lc_tup (K := K) (a := ma) (xs := mvs) (fun j H2 => Same H' H2 ∧ H2 D = some (.lst (natL ((((movesM t keys).take j).filter fun m => decide (m.1 ∈ ss) && decide (m.2.2.2.2.2 = c)).map (·.2.1))))) ⟨same_new hD _, upd_same⟩ (fun j H2 _ h => SqT.of (h.1 _ _ (s1 _ _ hm))) ?_ ?_
    · rintro j x H2 hxj ⟨s2, h2⟩
      obtain ⟨m, hmj, ⟨mt, rfl, hmt⟩⟩ := hmv.at' hxj
      have hmt2 := s2 _ _ (s1 _ _ hmt)
      have hlen : ((((movesM t keys).take j).filter fun m => decide (m.1 ∈ ss) && decide (m.2.2.2.2.2 = c)).map (·.2.1)).length ≤ 17 * 17 := by
        rw [List.length_map]
        refine Nat.le_trans (List.length_filter_le _ _) ?_
        rw [List.length_take]
        omega
      have step : ((movesM t keys).take (j + 1)).filter (fun m => decide (m.1 ∈ ss) && decide (m.2.2.2.2.2 = c)) = ((movesM t keys).take j).filter (fun m => decide (m.1 ∈ ss) && decide (m.2.2.2.2.2 = c)) ++ if (decide (m.1 ∈ ss) && decide (m.2.2.2.2.2 = c)) = true then [m] else [] := by
        rw [take_snoc hmj, List.filter_append, List.filter_cons]
        rfl
      have out : (decide (m.1 ∈ ss) && decide (m.2.2.2.2.2 = c)) = false → Same H' H2 ∧ H2 D = some (.lst (natL ((((movesM t keys).take (j + 1)).filter fun m => decide (m.1 ∈ ss) && decide (m.2.2.2.2.2 = c)).map (·.2.1)))) := fun hf => by
        refine ⟨s2, ?_⟩
        rw [step, hf, if_neg (by decide), List.append_nil]
        exact h2
      refine ⟨rfl, _, rfl, mt, _, _, _, rfl, rfl, SqT.of hmt2, atI_nat (j := 0) rfl, _, rfl, sa, _, rfl, .inl (SqL.of (s2 _ _ h1)), rfl, natL_flat _, _, rfl, ?_⟩
      rw [if_neg (by decide), inV_nat]
      refine ite2 (fun c1 => ?_) (fun c1 => ?_)
      · refine ⟨_, rfl, mt, _, _, _, rfl, rfl, SqT.of hmt2, atI_nat (j := 5) rfl, _, rfl, rfl, _, rfl, ?_⟩
        rw [dec_nat]
        refine ite2 (fun c2 => ?_) (fun c2 => ?_)
        · refine ⟨_, rfl, mt, _, _, _, rfl, rfl, SqT.of hmt2, atI_nat (j := 1) rfl, _, h2, (by rw [natL_length]; exact line_lt (by omega)), fun b u e => ?_, ?_⟩
          · rw [upd_ne (ne_of_none e hD)]
            exact s2 _ _ e
          · rw [upd_same, step, c1, c2, if_pos (by decide), List.map_append, natL_app]
            rfl
        · exact out (by rw [c1, Bool.true_and]; exact Bool.eq_false_iff.mpr c2)
      · refine iteF (out (by rw [Bool.eq_false_iff.mpr c1, Bool.false_and]))
    · rintro H2 ⟨s2, h2⟩
      rw [← hmvl, List.take_length] at h2
      have hlen : (((movesM t keys).filter fun m => decide (m.1 ∈ ss) && decide (m.2.2.2.2.2 = c)).map (·.2.1)).length ≤ 17 * 17 := by
        rw [List.length_map]
        exact Nat.le_trans (List.length_filter_le _ _) hml
      refine ⟨D, _, rfl, h2, by omega, fun H3 r s3 _ h3 => ?_⟩
      refine ⟨r, _, rfl, s1.trans (s2.trans s3), by rw [enext]; exact h3, fun z hz => ?_, ?_⟩
      · rw [enext] at hz
        obtain ⟨m, hmm, rfl⟩ := List.mem_map.mp (mem_once.mp hz)
        exact (move_fits hK (List.mem_filter.mp hmm).1).2.1
      · rw [enext]
        have h4 := once_len (((movesM t keys).filter fun m => decide (m.1 ∈ ss) && decide (m.2.2.2.2.2 = c)).map (·.2.1))
        show (once _).length ≤ _
        omega
  · rintro σ H' ⟨sa, o3, rfl, s1, h1, hz1, hl1⟩
    rw [natL_length, List.take_length] at h1 hz1 hl1
    generalize hss : row.foldl (stepM (movesM t keys)) [0] = ss at h1 hz1 hl1
    refine ⟨_, rfl, sa, rfl, ⟨_, SqL.of h1⟩, fun D hD => ?_⟩
    refine lc_list (K := K) (a := sa) (xs := natL ss) (fun j H2 => Same H' H2 ∧ H2 D = some (.lst ((((ss.take j).map fun s => (endsM keys).getD s false)).map V.bl))) ⟨same_new hD _, upd_same⟩ (fun j H2 _ h => SqL.of (h.1 _ _ h1)) ?_ ?_
    · rintro j x H2 hxj ⟨s2, h2⟩
      obtain ⟨z, hz, rfl⟩ := natL_get hxj
      have hzl := hz1 z (List.mem_of_getElem? hz)
      have hat : ((endsM keys).map V.bl)[z]? = some (.bl ((endsM keys).getD z false)) := by
        rw [List.getElem?_map, List.getD_eq_getElem?_getD, List.getElem?_eq_getElem hzl]
        rfl
      refine ⟨rfl, ?_⟩
      refine ⟨_, rfl, wy, _, _, _, rfl, rfl, SqT.of (s2 _ _ (s1 _ _ hw)), atI_nat (j := 0) rfl, _, rfl, ea, _, _, _, rfl, rfl, SqT.of (s2 _ _ (s1 _ _ he)), atI_nat hat, _, h2, ?_, fun b u e => ?_, ?_⟩
      · rw [List.length_map, List.length_map, List.length_take]
        exact line_lt (by omega)
      · rw [upd_ne (ne_of_none e hD)]
        exact s2 _ _ e
      · rw [upd_same, take_snoc hz, List.map_append, List.map_append]
        rfl
    · rintro H2 ⟨s2, h2⟩
      rw [natL_length, List.take_length] at h2
      refine ⟨D, _, rfl, .inl (SqL.of h2), rfl, bl_flat _, ?_⟩
      rw [if_neg (by decide), inV_bl, List.any_map]
      have e : ledM (endsM keys) (movesM t keys) row = ss.any (id ∘ fun s => (endsM keys).getD s false) := by
        unfold ledM
        rw [hss]
        rfl
      rw [← e]
      exact q H2 (s1.trans s2)
theorem scR : FnScope ["_law_costs", "_law_size", "_law_rows_here", "_law_found", "_law_turn", "_law_longer", "_law_row", "_law_cost"] ["_law_costs", "_law_size"] (defScope sRows) := ⟨rfl, rfl, rfl, by decide +kernel, rfl, by decide +kernel, by decide +kernel⟩
theorem ok_rows {f : Addr} {fd : FuncData} (F : Fun K "_law_rows" "_law_rows" sRows f fd) (B : Blt mg) : FnOk P w K mg base CX0 1 f fd ["_law_costs", "_law_size"] spRows := by
  refine F.ok scR (fun vs H Q E h => ?_) (fun cdv A outer s H vs Q E hr h => ?_)
  · obtain ⟨ca, cs, n, rfl, _⟩ := h
    rfl
  obtain ⟨ca, cs, n, rfl, hca, hc6, hn4, q⟩ := h
  refine ⟨_, pss_cons (ps_set (i := 2) scR.nd rfl (Or.inl rfl) (pe_lst (pa_cons (pe_lst pa_nil) pa_nil))) (pss_cons (ps_set (i := 3) scR.nd rfl (Or.inl rfl) (pe_lst (pa_cons (pe_lst pa_nil) pa_nil)))
    (pss_cons (ps_for PassesOwn.never rfl (pi_range1 rfl B.range (pa_cons (pv 1) pa_nil)) (pg_name (i := 4) scR.nd rfl (Or.inl rfl))
      (pss_cons (ps_set (i := 5) scR.nd rfl (Or.inl rfl) (pe_lst pa_nil))
      (pss_cons (ps_for PassesOwn.never rfl (pi_list (pv 2)) (pg_name (i := 6) scR.nd rfl (Or.inl rfl))
        (pss_one (ps_for PassesOwn.never rfl (pi_list (pv 0)) (pg_name (i := 7) scR.nd rfl (Or.inl rfl))
          (pss_one (ps_expr (pe_bm PySem.F.plainAttrs_list PySem.F.slot_list_append PySem.F.type_list_append mt_append (pv 5) (pa_cons (pe_op op_cat (pv 6) (pe_lst (pa_cons (pv 7) pa_nil))) pa_nil)))))))
      (pss_cons (ps_set (i := 2) scR.nd rfl (Or.inl rfl) (pv 5))
      (pss_one (ps_set (i := 3) scR.nd rfl (Or.inl rfl) (pe_op op_cat (pv 3) (pv 2))))))))
    (pss_one (ps_ret (pv 3))))), ?_⟩
  refine ⟨Nat.zero_le _, fun e1 he1 => ⟨line_big (by show 1 ≤ _; decide), fun r1 hr1' => ⟨Nat.zero_le _, fun e2 he2 => ⟨line_big (by show 1 ≤ _; decide), fun r2 hr2' => ?_⟩⟩⟩⟩
  have s1 := same_new he1 (.lst [])
  have s2 := same_new hr1' (.lst [.ref e1])
  have s3 := same_new he2 (.lst [])
  have s4 := same_new hr2' (.lst [.ref e2])
  have pw : ∀ i : Nat, i ≤ 4 → 6 ^ i ≤ 1296 := fun i hi => Nat.pow_le_pow_right (n := 6) (j := 4) (by decide) hi
  refine ⟨_, rfl, (n : Int), rfl, by omega, by omega, for_range (lo := 0) (n := ((n : Nat) : Int).toNat) (fun i σ H' => ∃ (ra fa : Addr) (rv fv : List V) (o4 o5 o6 o7 : Option V), σ = [some (.ref ca), some (.int (n : Int)), some (.ref ra), some (.ref fa), o4, o5, o6, o7] ∧ Same H H' ∧ H' ra = some (.lst rv) ∧ H' fa = some (.lst fv) ∧
    (∀ v ∈ rv, RowV H' i v) ∧ (∀ v ∈ fv, RowV H' i v) ∧ rv.length ≤ 6 ^ i ∧ fv.length ≤ 1 + i * 1296) ?_ ?_ ?_⟩
  · refine ⟨r1, r2, [.ref e1], [.ref e2], none, none, none, none, rfl, s1.trans (s2.trans (s3.trans s4)), s4 _ _ (s3 _ _ upd_same), upd_same, fun v hv => ?_, fun v hv => ?_, (by show 1 ≤ 1; decide), (by show 1 ≤ 1 + 0 * 1296; decide)⟩
    · rw [List.mem_singleton.mp hv]
      exact ⟨e1, [], rfl, s4 _ _ (s3 _ _ (s2 _ _ upd_same)), Nat.le_refl _⟩
    · rw [List.mem_singleton.mp hv]
      exact ⟨e2, [], rfl, s4 _ _ upd_same, Nat.le_refl _⟩
  · rintro i σ H1 hi ⟨ra, fa, rv, fv, o4, o5, o6, o7, rfl, sA, hra, hfa, hrv, hfv, lr, lf⟩
    have hi4 : i < 4 := by omega
    have pwi := pw i (by omega)
    refine ⟨Nat.zero_le _, fun la hla => ?_⟩
    have sL := same_new hla (.lst [])
    -- longer, so far: rows of i + 1, none of them longer itself
    refine ⟨_, rfl, ra, rfl, ⟨_, SqL.of (sL _ _ hra)⟩, for_list (K := K) (a := ra) (xs := rv) (fun j σ H' => ∃ (lv : List V) (o6 o7 : Option V), σ = [some (.ref ca), some (.int (n : Int)), some (.ref ra), some (.ref fa), some (.int (0 + (i : Int))), some (.ref la), o6, o7] ∧ Same H1 H' ∧ H' la = some (.lst lv) ∧
      (∀ v ∈ lv, ∃ (a : Addr) (row : List Nat), v = .ref a ∧ a ≠ la ∧ H' a = some (.lst (natL row)) ∧ row.length ≤ i + 1) ∧ lv.length ≤ j * 6) ⟨[], o6, o7, rfl, sL, upd_same, (fun v hv => nomatch hv), Nat.zero_le _⟩ (fun j σ H' _ ⟨_, _, _, _, s5, _⟩ => SqL.of (s5 _ _ hra)) ?_ ?_⟩
    · rintro j x σ H2 hxj ⟨lv, p6, p7, rfl, s5, hlv, hrows, ll⟩
      have hjl : j < rv.length := (List.getElem?_eq_some_iff.mp hxj).1
      obtain ⟨xa, xrow, rfl, hxa, hxl⟩ := hrv x (List.mem_of_getElem? hxj)
      refine ⟨_, rfl, ca, rfl, ⟨_, SqL.of (s5 _ _ (sA _ _ hca))⟩, for_list (K := K) (a := ca) (xs := natL cs) (fun k σ H' => ∃ (lv : List V) (o7 : Option V), σ = [some (.ref ca), some (.int (n : Int)), some (.ref ra), some (.ref fa), some (.int (0 + (i : Int))), some (.ref la), some (.ref xa), o7] ∧ Same H1 H' ∧ H' la = some (.lst lv) ∧
        (∀ v ∈ lv, ∃ (a : Addr) (row : List Nat), v = .ref a ∧ a ≠ la ∧ H' a = some (.lst (natL row)) ∧ row.length ≤ i + 1) ∧ lv.length ≤ j * 6 + k) ⟨lv, p7, rfl, s5, hlv, hrows, ll⟩ (fun k σ H' _ ⟨_, _, _, s6, _⟩ => SqL.of (s6 _ _ (sA _ _ hca))) ?_ ?_⟩
      · rintro k y σ H3 hyk ⟨lv3, p7, rfl, s6, hlv3, hrows3, ll3⟩
        obtain ⟨cc, hcc, rfl⟩ := natL_get hyk
        have hkl : k < cs.length := (List.getElem?_eq_some_iff.mp hcc).1
        have hj6 : j * 6 ≤ 1296 * 6 := Nat.mul_le_mul_right 6 (by omega)
        refine ⟨_, rfl, .inl ⟨rfl, _, SqL.of hlv3⟩, _, rfl, _, rfl, line_big (by show 1 ≤ _; decide), fun e he => ?_⟩
        have s7 := same_new he (.lst [.int (cc : Int)])
        refine ⟨xa, e, _, _, rfl, rfl, s7 _ _ (s6 _ _ hxa), upd_same, (by show (natL xrow).length + 1 ≤ _; rw [natL_length]; exact line_big (by omega)), fun z hz => ?_⟩
        have s8 := same_new hz (.lst (natL xrow ++ [.int (cc : Int)]))
        have nz : z ≠ la := Ne.symm (ne_of_none (s7 _ _ hlv3) hz)
        refine ⟨la, _, _, rfl, rfl, s8 _ _ (s7 _ _ hlv3), line_lt (by omega), ?_⟩
        refine ⟨lv3 ++ [.ref z], _, rfl, fun b u eb => ?_, upd_same, fun v hv => ?_, ?_⟩
        · rw [upd_ne (ne_of_none eb hla)]
          exact s8 _ _ (s7 _ _ (s6 _ _ eb))
        · rcases List.mem_append.mp hv with hv | hv
          · obtain ⟨a, row, h1, h2, h3, h4⟩ := hrows3 v hv
            exact ⟨a, row, h1, h2, by rw [upd_ne h2]; exact s8 _ _ (s7 _ _ h3), h4⟩
          · refine ⟨z, xrow ++ [cc], List.mem_singleton.mp hv, nz, ?_, ?_⟩
            · rw [upd_ne nz, upd_same, natL_app]
              rfl
            · rw [List.length_append, List.length_singleton]
              omega
        · rw [List.length_append, List.length_singleton]
          omega
      · rintro σ H3 ⟨lv3, p7, rfl, s6, hlv3, hrows3, ll3⟩
        rw [natL_length] at ll3
        exact ⟨lv3, _, p7, rfl, s6, hlv3, hrows3, by rw [Nat.succ_mul]; omega⟩
    · rintro σ H2 ⟨lv, p6, p7, rfl, s5, hlv, hrows, ll⟩
      have pw1 := pw (i + 1) (by omega)
      have ll' : lv.length ≤ 6 ^ (i + 1) := by
        rw [Nat.pow_succ]
        exact Nat.le_trans ll (Nat.mul_le_mul_right 6 lr)
      have hi1 : i * 1296 ≤ 4 * 1296 := Nat.mul_le_mul_right _ (by omega)
      refine ⟨_, rfl, _, rfl, _, rfl, fa, la, _, _, rfl, rfl, s5 _ _ hfa, hlv, line_big (by omega), fun z hz => ?_⟩
      have s8 := same_new hz (.lst (fv ++ lv))
      have hl2 : ∀ v ∈ lv, RowV (upd H2 z (.lst (fv ++ lv))) (i + 1) v := fun v hv => by
        obtain ⟨a, row, h1, _, h3, h4⟩ := hrows v hv
        exact ⟨a, row, h1, s8 _ _ h3, h4⟩
      refine ⟨la, z, lv, fv ++ lv, _, _, _, _, rfl, sA.trans (s5.trans s8), s8 _ _ hlv, upd_same, hl2, fun v hv => ?_, ll', ?_⟩
      · rcases List.mem_append.mp hv with hv | hv
        · exact (hfv v hv).keep (s5.trans s8) (Nat.le_succ _)
        · exact hl2 v hv
      · rw [List.length_append, Nat.succ_mul]
        omega
  · rintro σ H1 ⟨ra, fa, rv, fv, o4, o5, o6, o7, rfl, sA, hra, hfa, hrv, hfv, lr, lf⟩
    exact ⟨_, rfl, q H1 fa fv sA hfa fun v hv => by have := hfv v hv; rw [Int.toNat_natCast] at this; exact this⟩
end
end Gk
/-! ### the law -/
namespace Gk
open PySem L2
def spLaw (K : PySem.W.Frag) : Sp := fun vs H Q _ => ∃ (a : Addr) (ns : List Int), vs = [.ref a] ∧ SqL K H a (ns.map V.int) ∧ ns.length ≤ 63 ∧ ∀ H', Q (.bl true) H'
theorem cut6 (xs : List V) : cutV xs none (some 6) = xs.take 6 := by
  unfold cutV
  rw [HT.sIx_none, show (6 : Int) = ((6 : Nat) : Int) from rfl, HT.sIx_nat, List.drop_zero, Nat.sub_zero]
  by_cases h : xs.length ≤ 6
  · rw [Nat.min_eq_right h, List.take_length, List.take_of_length_le h]
  · rw [Nat.min_eq_left (by omega)]
theorem size_at {n : Nat} (h : n ≤ 6) : ∃ k : Nat, k ≤ 4 ∧ atI ([V.int 0, V.int 4, V.int 4, V.int 4, V.int 4, V.int 3, V.int 3] : List V) (n : Int) = some (.int (k : Int)) := by
  have h' : n = 0 ∨ n = 1 ∨ n = 2 ∨ n = 3 ∨ n = 4 ∨ n = 5 ∨ n = 6 := by omega
  rcases h' with rfl | rfl | rfl | rfl | rfl | rfl | rfl
  · exact ⟨0, by decide, rfl⟩
  · exact ⟨4, by decide, rfl⟩
  · exact ⟨4, by decide, rfl⟩
  · exact ⟨4, by decide, rfl⟩
  · exact ⟨4, by decide, rfl⟩
  · exact ⟨3, by decide, rfl⟩
  · exact ⟨3, by decide, rfl⟩
section
variable {P : Program} {w : World} {K : PySem.W.Frag} {mg : Str → Option Value} {base : Heap}
theorem scL : FnScope ["_law_script", "_law_box", "_law_tree_here", "_law_places_here", "_law_ways", "_law_move", "_law_size", "_law_row", "_law_place"] ["_law_script"] (defScope sLaw) := ⟨rfl, rfl, rfl, by decide +kernel, rfl, by decide +kernel, by decide +kernel⟩
theorem ok_law {f fD fT fP fM fR fL fB : Addr} {fd dD dT dP dM dR dL dB : FuncData} (F : Fun K "law" "law" sLaw f fd) (B : Blt mg)
    (GD : FnOk P w K mg base CX0 2 fD dD ["_law_script", "_law_first", "_law_last"] (spDigits K)) (bD : Binds K dD ["_law_script", "_law_first", "_law_last"] []) (kD : PySem.W.keepIn K (.ref fD) = true) (mD : mg "_law_digits" = some (.ref fD))
    (GT : FnOk P w K mg base CX0 6 fT dT ["_law_box", "_law_depth", "_law_count"] (spTree 5)) (bT : Binds K dT ["_law_box", "_law_depth", "_law_count"] []) (kT : PySem.W.keepIn K (.ref fT) = true) (mT : mg "_law_tree" = some (.ref fT))
    (GP : FnOk P w K mg base CX0 5 fP dP ["_law_tree_here"] (spPlaces 5)) (bP : Binds K dP ["_law_tree_here"] []) (kP : PySem.W.keepIn K (.ref fP) = true) (mP : mg "_law_places" = some (.ref fP))
    (GM : FnOk P w K mg base CX0 13 fM dM ["choice"] spMachine) (bM : Binds K dM ["choice"] []) (kM : PySem.W.keepIn K (.ref fM) = true) (mM : mg "machine" = some (.ref fM))
    (GR : FnOk P w K mg base CX0 1 fR dR ["_law_costs", "_law_size"] spRows) (bR : Binds K dR ["_law_costs", "_law_size"] []) (kR : PySem.W.keepIn K (.ref fR) = true) (mR : mg "_law_rows" = some (.ref fR))
    (GL : FnOk P w K mg base CX0 2 fL dL ["_law_ways", "_law_row"] spLed) (bL : Binds K dL ["_law_ways", "_law_row"] []) (kL : PySem.W.keepIn K (.ref fL) = true) (mL : mg "_law_led" = some (.ref fL))
    (GB : FnOk P w K mg base CX0 6 fB dB ["_law_tree_here", "_law_row", "_law_starts"] (spBehind 5)) (bB : Binds K dB ["_law_tree_here", "_law_row", "_law_starts"] []) (kB : PySem.W.keepIn K (.ref fB) = true) (mB : mg "_law_behind" = some (.ref fB)) :
    FnOk P w K mg base CX0 14 f fd ["_law_script"] (spLaw K) := by
  refine F.ok scL (fun vs H Q E h => ?_) (fun cdv A outer s H vs Q E hr h => ?_)
  · obtain ⟨a, ns, rfl, _⟩ := h
    rfl
  obtain ⟨a, ns, rfl, hS, _, q⟩ := h
  have hu : (A.deeper (PyProof.Rows.envOfC "law" (defScope sLaw) s.heap.objs.size f cdv)).units + 65 < cLine := by have := hr.un; omega
  refine ⟨_, pss_cons (ps_set (i := 1) scL.nd rfl (Or.inl rfl) (pe_lst (pa_cons (pe_call GD (hr.mono (by decide)) rfl mD kD bD .nil pass0 (pa_cons (pv 0) (pa_cons pe_int (pa_cons pe_int pa_nil)))) (pa_cons pe_int pa_nil))))
    (pss_cons (ps_set (i := 2) scL.nd rfl (Or.inl rfl) (pe_call GT (hr.mono (by decide)) rfl mT kT bT .nil pass0 (pa_cons (pv 1) (pa_cons pe_int (pa_cons (pe_lst (pa_cons pe_int pa_nil)) pa_nil)))))
    (pss_cons (ps_set (i := 3) scL.nd rfl (Or.inl rfl) (pe_slice sl_list (pe_call GP (hr.mono (by decide)) rfl mP kP bP .nil pass0 (pa_cons (pv 2) pa_nil)) po_none (po_some pe_int)))
    (pss_cons (ps_set (i := 4) scL.nd rfl (Or.inl rfl) (pe_call GM hr rfl mM kM bM .nil pass0 (pa_cons (pv 2) pa_nil)))
    (pss_cons (ps_if (PW.pt (pw_or (pt_not (pt_val (pe_callB call_isi (by rfl) B.isinstance PyProof.Rows.boot_isinstance (pa_cons (pv 4) (pa_cons (pe_bltn (v := .ty "tuple") (by rfl) B.tuple PyProof.Rows.boot_tuple rfl) pa_nil)))))
        (pw_or (pt_cmpR op_ne (pe_callB call_len_seq rfl B.len PySem.boot_len (pa_cons (pv 4) pa_nil)) pe_int (nomark _)) (pw_or1 (pt_cmpR op_lt (pe_callB call_len_seq rfl B.len PySem.boot_len (pa_cons (pe_ix ix_tup (pv 4) pe_int (fun _ _ => rfl)) pa_nil)) pe_int (nomark _))))))
      (pss_one (ps_ret pe_bl)) pss_nil)
    (pss_cons (ps_for PassesOwn.never rfl (pi_tup (pe_ix ix_tup (pv 4) pe_int (fun _ _ => rfl))) (pg_name (i := 5) scL.nd rfl (Or.inl rfl))
      (pss_cons (ps_if (PW.pt (pw_or (pt_cmpR op_ne (pe_callB call_len_seq rfl B.len PySem.boot_len (pa_cons (pv 5) pa_nil)) pe_int (nomark _))
          (pw_or (pt_cmpR op_ge (pe_ix ix_tup (pv 5) pe_int (fun _ _ => rfl)) (pe_callB call_len_seq rfl B.len PySem.boot_len (pa_cons (pe_ix ix_tup (pv 4) pe_int (fun _ _ => rfl)) pa_nil)) (nomark _))
            (pw_or1 (pt_cmpR op_ge (pe_ix ix_tup (pv 5) pe_int (fun _ _ => rfl)) (pe_callB call_len_seq rfl B.len PySem.boot_len (pa_cons (pe_ix ix_tup (pv 4) pe_int (fun _ _ => rfl)) pa_nil)) (nomark _))))))
        (pss_one (ps_ret pe_bl)) pss_nil)
      (pss_one (ps_if (pt_cmpR (op_notInD hu) (pe_tup (pa_cons pe_str (pa_cons (pe_ix ix_tup (pv 5) pe_int (fun _ _ => rfl)) (pa_cons (pe_ix ix_tup (pv 5) pe_int (fun _ _ => rfl)) (pa_cons (pe_ix ix_tup (pv 5) pe_int (fun _ _ => rfl)) (pa_cons (pe_ix ix_tup (pv 5) pe_int (fun _ _ => rfl)) pa_nil))))))
          (pe_call GP (hr.mono (by decide)) rfl mP kP bP .nil pass0 (pa_cons (pv 2) pa_nil)) (by rfl)) (pss_one (ps_ret pe_bl)) pss_nil))))
    (pss_cons (ps_set (i := 6) scL.nd rfl (Or.inl rfl) (pe_ix ix_list (pe_lst (pa_cons pe_int (pa_cons pe_int (pa_cons pe_int (pa_cons pe_int (pa_cons pe_int (pa_cons pe_int (pa_cons pe_int pa_nil)))))))) (pe_callB call_len_seq rfl B.len PySem.boot_len (pa_cons (pv 3) pa_nil)) (fun _ _ => rfl)))
    (pss_cons (ps_for PassesOwn.never rfl (pi_list (pe_call GR (hr.mono (by decide)) rfl mR kR bR .nil pass0 (pa_cons
          (pe_lc (own := [("_law_place", 8)]) (g := gName 8) (by rfl) scL.nd (pi_list (pv 3)) (blkOk_by (own := [("_law_place", 8)]) (N := ["_law_script", "_law_box", "_law_tree_here", "_law_places_here", "_law_ways", "_law_move", "_law_size", "_law_row", "_law_place"]) (sc := defScope sLaw) (by decide +kernel))
            (fun _ _ _ _ _ => pg_name (i := 8) scL.nd rfl (Or.inl rfl)) (fun _ _ _ _ _ => pts_nil) (fun _ _ _ _ _ => pe_ix (r := rIxT K) ix_tup (pv 8) pe_int (fun _ _ => rfl))) (pa_cons (pv 6) pa_nil)))) (pg_name (i := 7) scL.nd rfl (Or.inl rfl))
      (pss_one (ps_if (pt_cmpR op_ne (pe_call GL (hr.mono (by decide)) rfl mL kL bL .nil pass0 (pa_cons (pv 4) (pa_cons (pv 7) pa_nil)))
          (pe_cmpR op_in_seq (pe_callB call_len_seq rfl B.len PySem.boot_len (pa_cons (pv 7) pa_nil)) (pe_call GB (hr.mono (by decide)) rfl mB kB bB .nil pass0 (pa_cons (pv 2) (pa_cons (pv 7) (pa_cons (pe_lst (pa_cons pe_int pa_nil)) pa_nil)))) (by rfl)) (nomark _))
        (pss_one (ps_ret pe_bl)) pss_nil)))
    (pss_one (ps_ret pe_bl))))))))), ?_⟩
  -- _law_box = [_law_digits(_law_script, 0, 40), 0]
  refine ⟨_, rfl, a, ns, rfl, hS, fun H1 d ds s1 hd => ⟨line_big (by show 2 ≤ _; decide), fun b hb => ?_⟩⟩
  have s2 := same_new hb (.lst [.ref d, .int 0])
  have ndb : d ≠ b := ne_of_none hd hb
  -- _law_tree_here = _law_tree(_law_box, 4, [0])
  refine ⟨_, rfl, line_big (by show 1 ≤ _; decide), fun c hc => ?_⟩
  have s3 := same_new hc (.lst [.int 0])
  have bx : BoxAt (upd (upd H1 b (.lst [.ref d, .int 0])) c (.lst [.int 0])) b c d := ⟨ds, 0, ndb, ne_of_none (s2 _ _ hd) hc, s3 _ _ upd_same, s3 _ _ (s2 _ _ hd), by decide⟩
  refine ⟨b, c, d, 4, 0, rfl, by decide, bx, upd_same, fun H2 t v b2 _ hT hdep hnum _ => ?_⟩
  have hd5 : t.depth < 5 := by omega
  have hsz := size16 hd5
  have hlv := leaves_length t
  -- _law_places_here = _law_places(_law_tree_here)[:6]
  refine ⟨_, rfl, t, v, rfl, hT, hd5, hd5, fun H3 pr pvs s4 hpr hpa => ?_⟩
  refine ⟨6, rfl, pr, _, rfl, SqL.of hpr, fun ph hph => ?_⟩
  have s5 := same_new hph (.lst (cutV pvs none (some 6)))
  have hph' : (upd H3 ph (.lst (cutV pvs none (some 6)))) ph = some (.lst (pvs.take 6)) := by rw [upd_same, cut6]
  have hpa5 : All2 (PlAt (upd H3 ph (.lst (cutV pvs none (some 6))))) (t.leaves.take 6) (pvs.take 6) := (hpa.mono fun _ _ z => z.keep (.of s5)).take 6
  have hT5 : TreeAt (upd H3 ph (.lst (cutV pvs none (some 6)))) t v := hT.keep (.of (s4.trans s5))
  generalize upd H3 ph (.lst (cutV pvs none (some 6))) = H5 at s5 hph' hpa5 hT5 ⊢
  -- _law_ways = machine(_law_tree_here)
  refine ⟨_, rfl, t, v, rfl, hT5, hd5, fun H6 wy keys s6 hMach => ?_⟩
  have hph6 := s6 _ _ hph'
  have hpa6 : All2 (PlAt H6) (t.leaves.take 6) (pvs.take 6) := hpa5.mono fun _ _ z => z.keep (.of s6)
  have hT6 : TreeAt H6 t v := hT5.keep (.of s6)
  clear s6 hT5 hpa5 hph' s5 s4 hpa hpr hT b2 bx s3 s2 s1
  obtain ⟨ea, ma, mvs, hw, he, hm, hmv, hK⟩ := id hMach
  have hel : ((endsM keys).map V.bl).length = (endsM keys).length := List.length_map _
  have hpos : 1 ≤ (endsM keys).length := by
    have h1 := (cls_get (key_mem (hK.get (k := 0) (by omega)).1)).2
    show 1 ≤ ((once keys).map (·.1)).length
    rw [List.length_map]
    omega
  -- the machine is a pair, with a state
  refine ⟨_, rfl, _, _, .type "tuple", .type "tuple", true, rfl, .ty "tuple", .base (.tup hw), kit_ty (by decide +kernel), true, rfl, ?_⟩
  refine iteF ?_
  refine ⟨_, rfl, wy, _, rfl, .inr (SqT.of hw), rfl, _, rfl, ?_⟩
  have e2 : (!decide (V.int (([V.ref ea, V.ref ma] : List V).length : Int) = V.int 2)) = false := by
    show (!decide (V.int 2 = V.int 2)) = false
    rw [decide_eq_true rfl]
    rfl
  rw [e2]
  refine iteF ?_
  refine ⟨_, rfl, wy, _, _, _, rfl, rfl, SqT.of hw, atI_nat (j := 0) rfl, ea, _, rfl, .inr (SqT.of he), _, _, rfl, rfl, _, rfl, ?_⟩
  rw [hel]
  refine ite2 (fun c => absurd (of_decide_eq_true c) (by omega)) (fun _ => ?_)
  -- the moves
  refine ⟨_, rfl, wy, _, _, _, rfl, rfl, SqT.of hw, atI_nat (j := 1) rfl, ma, rfl, ⟨_, SqT.of hm⟩, ?_⟩
  refine for_tup (K := K) (a := ma) (xs := mvs) (fun i σ H' => ∃ o5 : Option V, σ = [some (.ref a), some (.ref b), some v, some (.ref ph), some (.ref wy), o5, none, none, none] ∧ Same H6 H') ⟨none, rfl, Same.refl _⟩ (fun i σ H' _ ⟨_, _, s7⟩ => SqT.of (s7 _ _ hm)) ?_ ?_
  · rintro i x σ H7 hx ⟨o5, rfl, s7⟩
    obtain ⟨m, hmi, ⟨mt, rfl, hmt⟩⟩ := hmv.at' hx
    obtain ⟨m1, m2, m3⟩ := move_fits hK (List.mem_of_getElem? hmi)
    have hmt7 := s7 _ _ hmt
    have hw7 := s7 _ _ hw
    have he7 := s7 _ _ he
    refine ⟨_, rfl, mt, _, rfl, .inr (SqT.of hmt7), rfl, _, rfl, ?_⟩
    have e6 : ∀ a1 a2 a3 a4 a5 a6 : V, (!decide (V.int (([a1, a2, a3, a4, a5, a6] : List V).length : Int) = V.int 6)) = false := fun _ _ _ _ _ _ => by
      show (!decide (V.int 6 = V.int 6)) = false
      rw [decide_eq_true rfl]
      rfl
    rw [e6]
    refine iteF ?_
    refine ⟨_, rfl, mt, _, _, _, rfl, rfl, SqT.of hmt7, atI_nat (j := 0) rfl, _, rfl, wy, _, _, _, rfl, rfl, SqT.of hw7, atI_nat (j := 0) rfl, ea, _, rfl, .inr (SqT.of he7), _, _, rfl, rfl, _, rfl, ?_⟩
    rw [hel]
    refine ite2 (fun c => absurd (of_decide_eq_true c) (by omega)) (fun _ => ?_)
    refine ⟨_, rfl, mt, _, _, _, rfl, rfl, SqT.of hmt7, atI_nat (j := 1) rfl, _, rfl, wy, _, _, _, rfl, rfl, SqT.of hw7, atI_nat (j := 0) rfl, ea, _, rfl, .inr (SqT.of he7), _, _, rfl, rfl, _, rfl, ?_⟩
    rw [hel]
    refine ite2 (fun c => absurd (of_decide_eq_true c) (by omega)) (fun _ => ?_)
    refine ⟨_, rfl, mt, _, _, _, rfl, rfl, SqT.of hmt7, atI_nat (j := 2) rfl, _, rfl, mt, _, _, _, rfl, rfl, SqT.of hmt7, atI_nat (j := 3) rfl, _, rfl, mt, _, _, _, rfl, rfl, SqT.of hmt7, atI_nat (j := 4) rfl, _, rfl, mt, _, _, _, rfl, rfl, SqT.of hmt7, atI_nat (j := 5) rfl, line_big (by show 5 ≤ _; decide), fun p hp => ?_⟩
    have s8 := same_new hp (.tup [.str "place", .int m.2.2.1, .int m.2.2.2.1, .int m.2.2.2.2.1, .int (m.2.2.2.2.2 : Int)])
    have hpl : PlAt (upd H7 p (.tup [.str "place", .int m.2.2.1, .int m.2.2.2.1, .int m.2.2.2.2.1, .int (m.2.2.2.2.2 : Int)])) m.2.2 (.ref p) := ⟨p, rfl, upd_same⟩
    refine ⟨_, rfl, t, v, rfl, hT6.keep (.of (s7.trans s8)), hd5, hd5, fun H8 r qvs s9 hr8 hqa => ?_⟩
    refine ⟨plD m.2.2, t.leaves.map plD, (hpl.keep (.of s9)).dp, .lst (SqL.of hr8) (dpAll_of (fun _ _ z => z.dp) _ _ hqa), plD_shaped _, plDs_shaped _, _, rfl, ?_⟩
    rw [plDs_in m3]
    refine iteF ?_
    exact ⟨_, rfl, s7.trans (s8.trans s9)⟩
  rintro σ H7 ⟨o5, rfl, s7⟩
  have hcl : (t.leaves.take 6).length ≤ 6 := by rw [List.length_take]; omega
  have hpl6 := hpa6.1
  have hph7 := s7 _ _ hph6
  have hpa7 : All2 (PlAt H7) (t.leaves.take 6) (pvs.take 6) := hpa6.mono fun _ _ z => z.keep (.of s7)
  have hT7 : TreeAt H7 t v := hT6.keep (.of s7)
  have hM7 : MachAt H7 wy t keys := hMach.keep (.of s7)
  -- _law_size = [..][len(_law_places_here)]
  refine ⟨line_big (by show 7 ≤ _; decide), fun z hz => ?_⟩
  have s8 := same_new hz (.lst [.int 0, .int 4, .int 4, .int 4, .int 4, .int 3, .int 3])
  obtain ⟨k, hk4, hk⟩ := size_at (n := (pvs.take 6).length) (by omega)
  refine ⟨_, rfl, ph, _, rfl, .inl (SqL.of (s8 _ _ hph7)), z, _, _, _, rfl, rfl, SqL.of upd_same, hk, ?_⟩
  -- the rows
  refine ⟨_, rfl, ph, rfl, ⟨_, SqL.of (s8 _ _ hph7)⟩, fun D hD => ?_⟩
  refine lc_list (K := K) (a := ph) (xs := pvs.take 6) (fun i H' => Same (upd H7 z (.lst [.int 0, .int 4, .int 4, .int 4, .int 4, .int 3, .int 3])) H' ∧ H' D = some (.lst (natL (((t.leaves.take 6).take i).map fun y => y.2.2.2)))) ⟨same_new hD _, upd_same⟩ (fun i H' _ h => SqL.of (h.1 _ _ (s8 _ _ hph7))) ?_ ?_
  · rintro i x H' hx ⟨h1, h2⟩
    obtain ⟨y, hy, ⟨ya, rfl, hya⟩⟩ := hpa7.at' hx
    refine ⟨rfl, ?_⟩
    refine ⟨_, rfl, ya, _, _, _, rfl, rfl, SqT.of (h1 _ _ (s8 _ _ hya)), atI_nat (j := 4) rfl, _, h2, ?_, fun b' u e => ?_, ?_⟩
    · rw [natL_length, List.length_map, List.length_take]
      exact line_lt (by omega)
    · rw [upd_ne (ne_of_none e hD)]
      exact h1 _ _ e
    · rw [upd_same, take_snoc hy, List.map_append, natL_app]
      rfl
  rintro H9 ⟨s9, h9⟩
  rw [← hpl6, List.take_length] at h9
  have s79 : Same H7 H9 := s8.trans s9
  refine ⟨_, rfl, D, _, k, rfl, h9, by rw [List.length_map]; exact hcl, hk4, fun H10 rr rvs s10 hrr hrows => ?_⟩
  have s7a : Same H7 H10 := s79.trans s10
  refine ⟨rr, rfl, ⟨_, SqL.of hrr⟩, for_list (K := K) (a := rr) (xs := rvs) (fun i σ H' => ∃ o7 : Option V, σ = [some (.ref a), some (.ref b), some v, some (.ref ph), some (.ref wy), o5, some (.int (k : Int)), o7, none] ∧ Same H10 H') ⟨none, rfl, Same.refl _⟩ (fun i σ H' _ ⟨_, _, s11⟩ => SqL.of (s11 _ _ hrr)) ?_ ?_⟩
  · rintro i x σ H11 hx ⟨o7, rfl, s11⟩
    obtain ⟨xa, row, rfl, hxa, hxl⟩ := hrows x (List.mem_of_getElem? hx)
    have sAll : Same H7 H11 := s7a.trans s11
    refine ⟨_, rfl, _, rfl, wy, xa, t, keys, row, rfl, hM7.keep (.of sAll), hsz, s11 _ _ hxa, by omega, fun H12 s12 => ?_⟩
    refine ⟨_, rfl, xa, _, rfl, .inl (SqL.of (s12 _ _ (s11 _ _ hxa))), _, rfl, _, rfl, line_big (by show 1 ≤ _; decide), fun y hy => ?_⟩
    have s13 := same_new hy (.lst [.int 0])
    have hg : gB t.depth * max ([0] : List Nat).length 5 ≤ 1000000 := by
      have h1 : gB t.depth ≤ gB 4 := gB_mono (by omega)
      have h2 : gB 4 = 65536 := by decide
      have h3 : gB t.depth * max ([0] : List Nat).length 5 ≤ 65536 * 5 := Nat.mul_le_mul (by omega) (Nat.le_refl _)
      omega
    refine ⟨t, v, xa, y, row, [0], rfl, hT7.keep (.of (sAll.trans (s12.trans s13))), hd5, s13 _ _ (s12 _ _ (s11 _ _ hxa)), by omega, upd_same, (fun j hj => by rw [List.mem_singleton.mp hj]; exact Nat.zero_le _), hg, fun H14 r14 s14 h14 => ?_⟩
    refine ⟨r14, _, rfl, .inl (SqL.of h14), rfl, natL_flat _, rfl, _, rfl, ?_⟩
    rw [if_neg (by decide), natL_length, inV_nat, led_is_beh hK hnum row, decide_eq_true rfl]
    refine iteF ?_
    exact ⟨_, rfl, s11.trans (s12.trans (s13.trans s14))⟩
  · rintro σ H11 ⟨o7, rfl, s11⟩
    exact q H11
end
end Gk
/-! ### what the top has written, the end -/
namespace Gk
open PySem L2
theorem all_mk {l : PySem.W.OpenLaw} {w : World} {K : PySem.W.Frag} {h : Heap} {mg : Str → Option Value} {fa C dW : Addr}
    {fJ fPl fSq fCh fRe fMa fW fM fCe fDg fDr fT fPs fB fO fLd fR fL fI fA fK : Addr}
    {odJ anJ odPl anPl odSq anSq odCh anCh odRe anRe odMa anMa odW anW odM anM odCe anCe odDg anDg odDr anDr odT anT odPs anPs odB anB odO anO odLd anLd odR anR odL anL odI anI odA anA odK anK : Option Addr}
    {slJ slPl slSq slCh slRe slMa slW slM slCe slDg slDr slT slPs slB slO slLd slR slL slI slA slK : Array (Option Value)}
    {ocJ kVJ dcJ pmJ cdJ ctJ ocPl kVPl dcPl pmPl cdPl ctPl ocSq kVSq dcSq pmSq cdSq ctSq ocCh kVCh dcCh pmCh cdCh ctCh ocRe kVRe dcRe pmRe cdRe ctRe ocMa kVMa dcMa pmMa cdMa ctMa ocW kVW dcW pmW cdW ctW ocM kVM dcM pmM cdM ctM ocCe kVCe dcCe pmCe cdCe ctCe ocDg kVDg dcDg pmDg cdDg ctDg ocDr kVDr dcDr pmDr cdDr ctDr ocT kVT dcT pmT cdT ctT ocPs kVPs dcPs pmPs cdPs ctPs ocB kVB dcB pmB cdB ctB ocO kVO dcO pmO cdO ctO ocLd kVLd dcLd pmLd cdLd ctLd ocR kVR dcR pmR cdR ctR ocL kVL dcL pmL cdL ctL ocI kVI dcI pmI cdI ctI ocA kVA dcA pmA cdA ctA ocK kVK dcK pmK cdK ctK : Value}
    {es : Array DictEntry} {nW : Nat}
    (X : K.In h) (G : h.Ns mainGlobals mg) (hfa : mg "law" = some (.ref fa))
    (aJ : PySem.W.nsIn K mainGlobals "joined" = some (some (.ref fJ)))
    (lJ : K.lookup fJ = some ⟨ocJ, odJ, .func (PySem.W.fnOf "joined" "joined" (defArgs sJoined) (defBody sJoined) (defScope sJoined) .none kVJ dcJ pmJ anJ cdJ ctJ), slJ⟩)
    (cJ : PySem.W.codeIn K cdJ "joined" = true)
    (kJ : PySem.W.keepIn K (.ref fJ) = true)
    (aPl : PySem.W.nsIn K mainGlobals "walk_place" = some (some (.ref fPl)))
    (lPl : K.lookup fPl = some ⟨ocPl, odPl, .func (PySem.W.fnOf "walk_place" "walk_place" (defArgs sWPl) (defBody sWPl) (defScope sWPl) .none kVPl dcPl pmPl anPl cdPl ctPl), slPl⟩)
    (cPl : PySem.W.codeIn K cdPl "walk_place" = true)
    (kPl : PySem.W.keepIn K (.ref fPl) = true)
    (aSq : PySem.W.nsIn K mainGlobals "walk_sequence" = some (some (.ref fSq)))
    (lSq : K.lookup fSq = some ⟨ocSq, odSq, .func (PySem.W.fnOf "walk_sequence" "walk_sequence" (defArgs sWSq) (defBody sWSq) (defScope sWSq) .none kVSq dcSq pmSq anSq cdSq ctSq), slSq⟩)
    (cSq : PySem.W.codeIn K cdSq "walk_sequence" = true)
    (kSq : PySem.W.keepIn K (.ref fSq) = true)
    (aCh : PySem.W.nsIn K mainGlobals "walk_choice" = some (some (.ref fCh)))
    (lCh : K.lookup fCh = some ⟨ocCh, odCh, .func (PySem.W.fnOf "walk_choice" "walk_choice" (defArgs sWCh) (defBody sWCh) (defScope sWCh) .none kVCh dcCh pmCh anCh cdCh ctCh), slCh⟩)
    (cCh : PySem.W.codeIn K cdCh "walk_choice" = true)
    (kCh : PySem.W.keepIn K (.ref fCh) = true)
    (aRe : PySem.W.nsIn K mainGlobals "walk_repeated" = some (some (.ref fRe)))
    (lRe : K.lookup fRe = some ⟨ocRe, odRe, .func (PySem.W.fnOf "walk_repeated" "walk_repeated" (defArgs sWRe) (defBody sWRe) (defScope sWRe) .none kVRe dcRe pmRe anRe cdRe ctRe), slRe⟩)
    (cRe : PySem.W.codeIn K cdRe "walk_repeated" = true)
    (kRe : PySem.W.keepIn K (.ref fRe) = true)
    (aMa : PySem.W.nsIn K mainGlobals "walk_maybe" = some (some (.ref fMa)))
    (lMa : K.lookup fMa = some ⟨ocMa, odMa, .func (PySem.W.fnOf "walk_maybe" "walk_maybe" (defArgs sWMa) (defBody sWMa) (defScope sWMa) .none kVMa dcMa pmMa anMa cdMa ctMa), slMa⟩)
    (cMa : PySem.W.codeIn K cdMa "walk_maybe" = true)
    (kMa : PySem.W.keepIn K (.ref fMa) = true)
    (aW : PySem.W.nsIn K mainGlobals "walk" = some (some (.ref fW)))
    (lW : K.lookup fW = some ⟨ocW, odW, .func (PySem.W.fnOf "walk" "walk" (defArgs sWalk) (defBody sWalk) (defScope sWalk) .none kVW dcW pmW anW cdW ctW), slW⟩)
    (cW : PySem.W.codeIn K cdW "walk" = true)
    (kW : PySem.W.keepIn K (.ref fW) = true)
    (aM : PySem.W.nsIn K mainGlobals "machine" = some (some (.ref fM)))
    (lM : K.lookup fM = some ⟨ocM, odM, .func (PySem.W.fnOf "machine" "machine" (defArgs sMachine) (defBody sMachine) (defScope sMachine) .none kVM dcM pmM anM cdM ctM), slM⟩)
    (cM : PySem.W.codeIn K cdM "machine" = true)
    (kM : PySem.W.keepIn K (.ref fM) = true)
    (aCe : PySem.W.nsIn K mainGlobals "_law_cell" = some (some (.ref fCe)))
    (lCe : K.lookup fCe = some ⟨ocCe, odCe, .func (PySem.W.fnOf "_law_cell" "_law_cell" (defArgs sCell) (defBody sCell) (defScope sCell) .none kVCe dcCe pmCe anCe cdCe ctCe), slCe⟩)
    (cCe : PySem.W.codeIn K cdCe "_law_cell" = true)
    (kCe : PySem.W.keepIn K (.ref fCe) = true)
    (aDg : PySem.W.nsIn K mainGlobals "_law_digits" = some (some (.ref fDg)))
    (lDg : K.lookup fDg = some ⟨ocDg, odDg, .func (PySem.W.fnOf "_law_digits" "_law_digits" (defArgs sDigits) (defBody sDigits) (defScope sDigits) .none kVDg dcDg pmDg anDg cdDg ctDg), slDg⟩)
    (cDg : PySem.W.codeIn K cdDg "_law_digits" = true)
    (kDg : PySem.W.keepIn K (.ref fDg) = true)
    (aDr : PySem.W.nsIn K mainGlobals "_law_draw" = some (some (.ref fDr)))
    (lDr : K.lookup fDr = some ⟨ocDr, odDr, .func (PySem.W.fnOf "_law_draw" "_law_draw" (defArgs sDraw) (defBody sDraw) (defScope sDraw) .none kVDr dcDr pmDr anDr cdDr ctDr), slDr⟩)
    (cDr : PySem.W.codeIn K cdDr "_law_draw" = true)
    (kDr : PySem.W.keepIn K (.ref fDr) = true)
    (aT : PySem.W.nsIn K mainGlobals "_law_tree" = some (some (.ref fT)))
    (lT : K.lookup fT = some ⟨ocT, odT, .func (PySem.W.fnOf "_law_tree" "_law_tree" (defArgs sTree) (defBody sTree) (defScope sTree) .none kVT dcT pmT anT cdT ctT), slT⟩)
    (cT : PySem.W.codeIn K cdT "_law_tree" = true)
    (kT : PySem.W.keepIn K (.ref fT) = true)
    (aPs : PySem.W.nsIn K mainGlobals "_law_places" = some (some (.ref fPs)))
    (lPs : K.lookup fPs = some ⟨ocPs, odPs, .func (PySem.W.fnOf "_law_places" "_law_places" (defArgs sPlaces) (defBody sPlaces) (defScope sPlaces) .none kVPs dcPs pmPs anPs cdPs ctPs), slPs⟩)
    (cPs : PySem.W.codeIn K cdPs "_law_places" = true)
    (kPs : PySem.W.keepIn K (.ref fPs) = true)
    (aB : PySem.W.nsIn K mainGlobals "_law_behind" = some (some (.ref fB)))
    (lB : K.lookup fB = some ⟨ocB, odB, .func (PySem.W.fnOf "_law_behind" "_law_behind" (defArgs sBehind) (defBody sBehind) (defScope sBehind) .none kVB dcB pmB anB cdB ctB), slB⟩)
    (cB : PySem.W.codeIn K cdB "_law_behind" = true)
    (kB : PySem.W.keepIn K (.ref fB) = true)
    (aO : PySem.W.nsIn K mainGlobals "_law_once" = some (some (.ref fO)))
    (lO : K.lookup fO = some ⟨ocO, odO, .func (PySem.W.fnOf "_law_once" "_law_once" (defArgs sOnce) (defBody sOnce) (defScope sOnce) .none kVO dcO pmO anO cdO ctO), slO⟩)
    (cO : PySem.W.codeIn K cdO "_law_once" = true)
    (kO : PySem.W.keepIn K (.ref fO) = true)
    (aLd : PySem.W.nsIn K mainGlobals "_law_led" = some (some (.ref fLd)))
    (lLd : K.lookup fLd = some ⟨ocLd, odLd, .func (PySem.W.fnOf "_law_led" "_law_led" (defArgs sLed) (defBody sLed) (defScope sLed) .none kVLd dcLd pmLd anLd cdLd ctLd), slLd⟩)
    (cLd : PySem.W.codeIn K cdLd "_law_led" = true)
    (kLd : PySem.W.keepIn K (.ref fLd) = true)
    (aR : PySem.W.nsIn K mainGlobals "_law_rows" = some (some (.ref fR)))
    (lR : K.lookup fR = some ⟨ocR, odR, .func (PySem.W.fnOf "_law_rows" "_law_rows" (defArgs sRows) (defBody sRows) (defScope sRows) .none kVR dcR pmR anR cdR ctR), slR⟩)
    (cR : PySem.W.codeIn K cdR "_law_rows" = true)
    (kR : PySem.W.keepIn K (.ref fR) = true)
    (aL : PySem.W.nsIn K mainGlobals "law" = some (some (.ref fL)))
    (lL : K.lookup fL = some ⟨ocL, odL, .func (PySem.W.fnOf "law" "law" (defArgs sLaw) (defBody sLaw) (defScope sLaw) .none kVL dcL pmL anL cdL ctL), slL⟩)
    (cL : PySem.W.codeIn K cdL "law" = true)
    (kL : PySem.W.keepIn K (.ref fL) = true)
    (aCl : PySem.W.nsIn K mainGlobals "Places" = some (some (.ref C)))
    (aI : PySem.W.findIn K (.ref C) "__init__" = some (some (.ref fI)))
    (iI : PySem.W.isFn K (.ref fI) = true)
    (lI : K.lookup fI = some ⟨ocI, odI, .func (PySem.W.fnOf "__init__" "Places.__init__" (defArgs sInit) (defBody sInit) (defScope sInit) .none kVI dcI pmI anI cdI ctI), slI⟩)
    (cI : PySem.W.codeIn K cdI "Places.__init__" = true)
    (kI : PySem.W.keepIn K (.ref fI) = true)
    (aA : PySem.W.findIn K (.ref C) "add" = some (some (.ref fA)))
    (iA : PySem.W.isFn K (.ref fA) = true)
    (lA : K.lookup fA = some ⟨ocA, odA, .func (PySem.W.fnOf "add" "Places.add" (defArgs sAdd) (defBody sAdd) (defScope sAdd) .none kVA dcA pmA anA cdA ctA), slA⟩)
    (cA : PySem.W.codeIn K cdA "Places.add" = true)
    (kA : PySem.W.keepIn K (.ref fA) = true)
    (aK : PySem.W.findIn K (.ref C) "link" = some (some (.ref fK)))
    (iK : PySem.W.isFn K (.ref fK) = true)
    (lK : K.lookup fK = some ⟨ocK, odK, .func (PySem.W.fnOf "link" "Places.link" (defArgs sLink) (defBody sLink) (defScope sLink) .none kVK dcK pmK anK cdK ctK), slK⟩)
    (cK : PySem.W.codeIn K cdK "Places.link" = true)
    (kK : PySem.W.keepIn K (.ref fK) = true)
    (pg : PySem.W.plainGet K C Str.empty = true)
    (hd : PySem.W.hasDictIn K C = true)
    (po : PySem.W.plainOver K C = true)
    (sa : PySem.W.findIn K (.ref C) "__setattr__" = some (some (.builtin "object.__setattr__")))
    (mk : PySem.W.makesIn K C = true)
    (kc : PySem.W.keepIn K (.ref C) = true)
    (nP : PySem.W.findIn K (.ref C) "places" = some none)
    (nF : PySem.W.findIn K (.ref C) "followers" = some none)
    (zlen : PySem.W.nsIn K mainGlobals "len" = some none)
    (ztuple : PySem.W.nsIn K mainGlobals "tuple" = some none)
    (zsorted : PySem.W.nsIn K mainGlobals "sorted" = some none)
    (zrange : PySem.W.nsIn K mainGlobals "range" = some none)
    (zlist : PySem.W.nsIn K mainGlobals "list" = some none)
    (zint : PySem.W.nsIn K mainGlobals "int" = some none)
    (zisinstance : PySem.W.nsIn K mainGlobals "isinstance" = some none)
    (aWk : PySem.W.nsIn K mainGlobals "WALKS" = some (some (.ref dW)))
    (lWk : K.lookup dW = some ⟨.type "dict", none, .dict es nW, #[]⟩)
    (kWk : PySem.W.KeysLit w.params es.toList)
    (w_place : PySem.W.nsIn K dW "place" = some (some (.ref fPl)))
    (w_sequence : PySem.W.nsIn K dW "sequence" = some (some (.ref fSq)))
    (w_choice : PySem.W.nsIn K dW "choice" = some (some (.ref fCh)))
    (w_any : PySem.W.nsIn K dW "any" = some (some (.ref fRe)))
    (w_some : PySem.W.nsIn K dW "some" = some (some (.ref fRe)))
    (w_maybe : PySem.W.nsIn K dW "maybe" = some (some (.ref fMa)))
    : ∃ fd : FuncData, (∀ (s : Shared) (v : Value), BindsTo s fd ⟨[v], []⟩ [("_law_script", v)]) ∧ ∀ base : Heap, K.In base → base.Ns mainGlobals mg → FnOk l.prog w K mg base CX0 14 fa fd ["_law_script"] (spLaw K) := by
  have e := hfa.symm.trans (PySem.W.mg_of X G aL)
  cases e
  have T : Txt K mg C := ⟨⟨pg, hd, po, sa⟩, nP, nF, PySem.W.mg_of X G aCl, PySem.W.mg_none_of X G zlen⟩
  have Bl : Blt mg := ⟨PySem.W.mg_none_of X G zlen, PySem.W.mg_none_of X G ztuple, PySem.W.mg_none_of X G zsorted, PySem.W.mg_none_of X G zrange, PySem.W.mg_none_of X G zlist, PySem.W.mg_none_of X G zint, PySem.W.mg_none_of X G zisinstance⟩
  have FJ := fun_mk (st := sJoined) lJ cJ kJ
  have FPl := fun_mk (st := sWPl) lPl cPl kPl
  have FSq := fun_mk (st := sWSq) lSq cSq kSq
  have FCh := fun_mk (st := sWCh) lCh cCh kCh
  have FRe := fun_mk (st := sWRe) lRe cRe kRe
  have FMa := fun_mk (st := sWMa) lMa cMa kMa
  have FW := fun_mk (st := sWalk) lW cW kW
  have FM := fun_mk (st := sMachine) lM cM kM
  have FCe := fun_mk (st := sCell) lCe cCe kCe
  have FDg := fun_mk (st := sDigits) lDg cDg kDg
  have FDr := fun_mk (st := sDraw) lDr cDr kDr
  have FT := fun_mk (st := sTree) lT cT kT
  have FPs := fun_mk (st := sPlaces) lPs cPs kPs
  have FB := fun_mk (st := sBehind) lB cB kB
  have FO := fun_mk (st := sOnce) lO cO kO
  have FLd := fun_mk (st := sLed) lLd cLd kLd
  have FR := fun_mk (st := sRows) lR cR kR
  have FL := fun_mk (st := sLaw) lL cL kL
  have FI := fun_mk (st := sInit) lI cI kI
  have FA := fun_mk (st := sAdd) lA cA kA
  have FK := fun_mk (st := sLink) lK cK kK
  have bJ := FJ.binds (ps := ["one", "other"]) fun _ _ _ _ _ _ us hl => match us, hl with | [_, _], _ => rfl
  have bPl := FPl.binds (ps := ["places", "choice"]) fun _ _ _ _ _ _ us hl => match us, hl with | [_, _], _ => rfl
  have bSq := FSq.binds (ps := ["places", "choice"]) fun _ _ _ _ _ _ us hl => match us, hl with | [_, _], _ => rfl
  have bCh := FCh.binds (ps := ["places", "choice"]) fun _ _ _ _ _ _ us hl => match us, hl with | [_, _], _ => rfl
  have bRe := FRe.binds (ps := ["places", "choice"]) fun _ _ _ _ _ _ us hl => match us, hl with | [_, _], _ => rfl
  have bMa := FMa.binds (ps := ["places", "choice"]) fun _ _ _ _ _ _ us hl => match us, hl with | [_, _], _ => rfl
  have bW := FW.binds (ps := ["places", "choice"]) fun _ _ _ _ _ _ us hl => match us, hl with | [_, _], _ => rfl
  have bM := FM.binds (ps := ["choice"]) fun _ _ _ _ _ _ us hl => match us, hl with | [_], _ => rfl
  have bCe := FCe.binds (ps := ["_law_script", "_law_k"]) fun _ _ _ _ _ _ us hl => match us, hl with | [_, _], _ => rfl
  have bDg := FDg.binds (ps := ["_law_script", "_law_first", "_law_last"]) fun _ _ _ _ _ _ us hl => match us, hl with | [_, _, _], _ => rfl
  have bDr := FDr.binds (ps := ["_law_box", "_law_many"]) fun _ _ _ _ _ _ us hl => match us, hl with | [_, _], _ => rfl
  have bT := FT.binds (ps := ["_law_box", "_law_depth", "_law_count"]) fun _ _ _ _ _ _ us hl => match us, hl with | [_, _, _], _ => rfl
  have bPs := FPs.binds (ps := ["_law_tree_here"]) fun _ _ _ _ _ _ us hl => match us, hl with | [_], _ => rfl
  have bB := FB.binds (ps := ["_law_tree_here", "_law_row", "_law_starts"]) fun _ _ _ _ _ _ us hl => match us, hl with | [_, _, _], _ => rfl
  have bO := FO.binds (ps := ["_law_numbers"]) fun _ _ _ _ _ _ us hl => match us, hl with | [_], _ => rfl
  have bLd := FLd.binds (ps := ["_law_ways", "_law_row"]) fun _ _ _ _ _ _ us hl => match us, hl with | [_, _], _ => rfl
  have bR := FR.binds (ps := ["_law_costs", "_law_size"]) fun _ _ _ _ _ _ us hl => match us, hl with | [_, _], _ => rfl
  have bI := FI.binds (ps := ["self"]) fun _ _ _ _ _ _ us hl => match us, hl with | [_], _ => rfl
  have bA := FA.binds (ps := ["self", "place"]) fun _ _ _ _ _ _ us hl => match us, hl with | [_, _], _ => rfl
  have bK := FK.binds (ps := ["self", "lasts", "firsts"]) fun _ _ _ _ _ _ us hl => match us, hl with | [_, _, _], _ => rfl
  have Tb : Tab K w mg dW fPl fSq fCh fRe fMa := ⟨PySem.W.mg_of X G aWk, ⟨es, nW, _, lWk, kWk, w_place, rfl⟩, ⟨es, nW, _, lWk, kWk, w_sequence, rfl⟩, ⟨es, nW, _, lWk, kWk, w_choice, rfl⟩, ⟨es, nW, _, lWk, kWk, w_any, rfl⟩, ⟨es, nW, _, lWk, kWk, w_some, rfl⟩, ⟨es, nW, _, lWk, kWk, w_maybe, rfl⟩⟩
  refine ⟨PySem.W.fnOf "law" "law" (defArgs sLaw) (defBody sLaw) (defScope sLaw) .none kVL dcL pmL anL cdL ctL, fun s v => .of_eq rfl, fun base _ _ => ?_⟩
  have GJ := ok_joined (P := l.prog) (w := w) (mg := mg) (base := base) FJ
  have GI := ok_init (P := l.prog) (w := w) (mg := mg) (base := base) FI T
  have GA := ok_add (P := l.prog) (w := w) (mg := mg) (base := base) FA T
  have GK := ok_link (P := l.prog) (w := w) (mg := mg) (base := base) FK T GJ bJ kJ (PySem.W.mg_of X G aJ)
  have GW := walk_all (P := l.prog) (w := w) (mg := mg) (base := base) T Tb FW bW (PySem.W.mg_of X G aW) FPl bPl FSq bSq FCh bCh FRe bRe FMa bMa GA bA ⟨aA, iA, kA⟩ GJ bJ kJ (PySem.W.mg_of X G aJ) GK bK ⟨aK, iK, kK⟩ 5
  have GM := ok_machine (P := l.prog) (w := w) (mg := mg) (base := base) FM T Bl ⟨mk, aI, iI, kc⟩ GI bI GW bW kW (PySem.W.mg_of X G aW) GK bK ⟨aK, iK, kK⟩
  have GCe := ok_cell (P := l.prog) (w := w) (mg := mg) (base := base) FCe Bl
  have GDg := ok_digits (P := l.prog) (w := w) (mg := mg) (base := base) FDg Bl GCe bCe kCe (PySem.W.mg_of X G aCe)
  have GDr := ok_draw (P := l.prog) (w := w) (mg := mg) (base := base) FDr Bl
  have GT := tree_all (P := l.prog) (w := w) (mg := mg) (base := base) FT Bl GDr bDr kDr (PySem.W.mg_of X G aDr) bT (PySem.W.mg_of X G aT) 5
  have GPs := places_all (P := l.prog) (w := w) (mg := mg) (base := base) FPs bPs (PySem.W.mg_of X G aPs) 5
  have GO := ok_once (P := l.prog) (w := w) (mg := mg) (base := base) FO
  have GB := behind_all (P := l.prog) (w := w) (mg := mg) (base := base) FB Bl GO bO kO (PySem.W.mg_of X G aO) bB (PySem.W.mg_of X G aB) 5
  have GLd := ok_led (P := l.prog) (w := w) (mg := mg) (base := base) FLd GO bO kO (PySem.W.mg_of X G aO)
  have GR := ok_rows (P := l.prog) (w := w) (mg := mg) (base := base) FR Bl
  exact ok_law FL Bl GDg bDg kDg (PySem.W.mg_of X G aDg) GT bT kT (PySem.W.mg_of X G aT) GPs bPs kPs (PySem.W.mg_of X G aPs) GM bM kM (PySem.W.mg_of X G aM) GR bR kR (PySem.W.mg_of X G aR) GLd bLd kLd (PySem.W.mg_of X G aLd) GB bB kB (PySem.W.mg_of X G aB)
theorem walk_law {l : PySem.W.OpenLaw} {q : Program} {loose : List Str} {XP : (Str → Option Value) → Heap → Prop} {YP : World → Heap → Prop} {d : DefRec} {K : Params → PySem.W.Frag} (hn : l.most = some 63) (hdf : d.params.defaults = [])
    (hY : ∀ (w : World) (h : Heap), YP w h → (K w.params).In h)
    (F : ∀ (w : World) (mg : Str → Option Value) (fa : Addr) (h : Heap), (K w.params).In h → h.Ns mainGlobals mg → mg d.name = some (.ref fa) →
      ∃ fd : FuncData, (∀ (s : Shared) (u : Value), BindsTo s fd ⟨[u], []⟩ [("_law_script", u)]) ∧ ∀ base : Heap, (K w.params).In base → base.Ns mainGlobals mg → FnOk l.prog w (K w.params) mg base CX0 14 fa fd ["_law_script"] (spLaw (K w.params))) :
    PySem.W.WalkO q loose XP YP l.row.toRowW d [] (fun f vs => PySem.call f vs) :=
  L2.walk_of (n := 63) (k := 14) (x := "_law_script") (CX := fun _ => CX0) (sp := fun w => spLaw (K w.params)) hn (by decide) hdf ⟨rfl, by decide, by decide⟩ hY F (fun _ _ a ns hl _ hS => ⟨a, ns, rfl, hS, hl, fun _ => rfl⟩) fun _ _ _ _ _ z => z
end Gk
open PySem PySem.W PyProof.Rows
set_option maxRecDepth 100000 in
set_option maxHeartbeats 0 in
theorem PySem.Challenge.cw_surelyread_k08_machines_take_holds : PySem.Challenge.rw_surelyread_k08_machines_take.Holds := by
  w_on; o_law; k_head; (case hw => w_witness2)
  k_fill
  refine Gk.walk_law (l := PySem.Challenge.rw_surelyread_k08_machines_take) rfl rfl (fun w h Y => PySem.W.kIn_of Y) ?F
  case F =>
    intro w mg fa h KX G hmg
    refine' Gk.all_mk KX G hmg ?aJ ?lJ ?cJ ?kJ ?aPl ?lPl ?cPl ?kPl ?aSq ?lSq ?cSq ?kSq ?aCh ?lCh ?cCh ?kCh ?aRe ?lRe ?cRe ?kRe ?aMa ?lMa ?cMa ?kMa ?aW ?lW ?cW ?kW ?aM ?lM ?cM ?kM ?aCe ?lCe ?cCe ?kCe ?aDg ?lDg ?cDg ?kDg ?aDr ?lDr ?cDr ?kDr ?aT ?lT ?cT ?kT ?aPs ?lPs ?cPs ?kPs ?aB ?lB ?cB ?kB ?aO ?lO ?cO ?kO ?aLd ?lLd ?cLd ?kLd ?aR ?lR ?cR ?kR ?aL ?lL ?cL ?kL ?aCl ?aI ?iI ?lI ?cI ?kI ?aA ?iA ?lA ?cA ?kA ?aK ?iK ?lK ?cK ?kK ?pg ?hd ?po ?sa ?mk ?kc ?nP ?nF ?zlen ?ztuple ?zsorted ?zrange ?zlist ?zint ?zisinstance ?aWk ?lWk ?kWk ?w_place ?w_sequence ?w_choice ?w_any ?w_some ?w_maybe
    (case aJ => k_is)
    (case lJ => k_is)
    (case cJ => k_is)
    (case kJ => k_is)
    (case aPl => k_is)
    (case lPl => k_is)
    (case cPl => k_is)
    (case kPl => k_is)
    (case aSq => k_is)
    (case lSq => k_is)
    (case cSq => k_is)
    (case kSq => k_is)
    (case aCh => k_is)
    (case lCh => k_is)
    (case cCh => k_is)
    (case kCh => k_is)
    (case aRe => k_is)
    (case lRe => k_is)
    (case cRe => k_is)
    (case kRe => k_is)
    (case aMa => k_is)
    (case lMa => k_is)
    (case cMa => k_is)
    (case kMa => k_is)
    (case aW => k_is)
    (case lW => k_is)
    (case cW => k_is)
    (case kW => k_is)
    (case aM => k_is)
    (case lM => k_is)
    (case cM => k_is)
    (case kM => k_is)
    (case aCe => k_is)
    (case lCe => k_is)
    (case cCe => k_is)
    (case kCe => k_is)
    (case aDg => k_is)
    (case lDg => k_is)
    (case cDg => k_is)
    (case kDg => k_is)
    (case aDr => k_is)
    (case lDr => k_is)
    (case cDr => k_is)
    (case kDr => k_is)
    (case aT => k_is)
    (case lT => k_is)
    (case cT => k_is)
    (case kT => k_is)
    (case aPs => k_is)
    (case lPs => k_is)
    (case cPs => k_is)
    (case kPs => k_is)
    (case aB => k_is)
    (case lB => k_is)
    (case cB => k_is)
    (case kB => k_is)
    (case aO => k_is)
    (case lO => k_is)
    (case cO => k_is)
    (case kO => k_is)
    (case aLd => k_is)
    (case lLd => k_is)
    (case cLd => k_is)
    (case kLd => k_is)
    (case aR => k_is)
    (case lR => k_is)
    (case cR => k_is)
    (case kR => k_is)
    (case aL => k_is)
    (case lL => k_is)
    (case cL => k_is)
    (case kL => k_is)
    (case aCl => k_is)
    (case aI => k_is)
    (case iI => k_is)
    (case lI => k_is)
    (case cI => k_is)
    (case kI => k_is)
    (case aA => k_is)
    (case iA => k_is)
    (case lA => k_is)
    (case cA => k_is)
    (case kA => k_is)
    (case aK => k_is)
    (case iK => k_is)
    (case lK => k_is)
    (case cK => k_is)
    (case kK => k_is)
    (case pg => k_is)
    (case hd => k_is)
    (case po => k_is)
    (case sa => k_is)
    (case mk => k_is)
    (case kc => k_is)
    (case nP => k_is)
    (case nF => k_is)
    (case zlen => k_is)
    (case ztuple => k_is)
    (case zsorted => k_is)
    (case zrange => k_is)
    (case zlist => k_is)
    (case zint => k_is)
    (case zisinstance => k_is)
    (case aWk => k_is)
    (case lWk => k_is)
    (case kWk => exact ⟨⟨_, _, rfl, rfl⟩, ⟨_, _, rfl, rfl⟩, ⟨_, _, rfl, rfl⟩, ⟨_, _, rfl, rfl⟩, ⟨_, _, rfl, rfl⟩, ⟨_, _, rfl, rfl⟩, True.intro⟩)
    (case w_place => k_is)
    (case w_sequence => k_is)
    (case w_choice => k_is)
    (case w_any => k_is)
    (case w_some => k_is)
    (case w_maybe => k_is)
