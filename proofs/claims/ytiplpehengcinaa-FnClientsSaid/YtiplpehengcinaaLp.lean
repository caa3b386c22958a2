/- More rules for loops: two loops that do the same; loops that ask each element; the first place where something fails. -/
import Derived.Test.YtiplpehengcinaaSm
set_option linter.unusedVariables false
set_option linter.unusedSimpArgs false
namespace Go.Proofs.Ytiplpehengcinaa.Ev

theorem loopN_congr {α β : Type} {f g : α → Option (α ⊕ β)} (I : α → Prop) (h : ∀ x, I x → f x = g x) (hI : ∀ x y, I x → f x = some (.inl y) → I y) : ∀ n x, I x → loopN f n x = loopN g n x
  | 0, _, _ => rfl
  | n + 1, x, hx => by
    simp only [loopN, ← h x hx]
    cases e : f x with
    | none => rfl
    | some v =>
      cases v with
      | inl y => exact loopN_congr I h hI n y (hI x y hx e)
      | inr z => rfl
theorem loopO_congr {α β : Type} {f g : α → Option (α ⊕ β)} (I : α → Prop) (h : ∀ x, I x → f x = g x) (hI : ∀ x y, I x → f x = some (.inl y) → I y) {x : α} (hx : I x) : loopO f x = loopO g x := by
  cases e : loopO g x with
  | some z =>
    obtain ⟨n, hn⟩ := loopO_spec e
    exact loopO_of (n := n) (by rw [loopN_congr I h hI n x hx]; exact hn)
  | none =>
    cases e' : loopO f x with
    | none => rfl
    | some z =>
      obtain ⟨n, hn⟩ := loopO_spec e'
      rw [loopN_congr I h hI n x hx] at hn
      rw [loopO_of hn] at e
      cases e

def firstN (go : Nat → Bool) : Nat → Nat → Nat
  | i, 0 => i
  | i, k + 1 => if go i then firstN go (i + 1) k else i
theorem firstN_le (go : Nat → Bool) : ∀ k i, firstN go i k ≤ i + k
  | 0, i => Nat.le_refl _
  | k + 1, i => by
    simp only [firstN]
    split
    · have := firstN_le go k (i + 1); omega
    · omega
theorem firstN_fails (go : Nat → Bool) : ∀ k i, firstN go i k < i + k → go (firstN go i k) = false
  | 0, i, h => by simp [firstN] at h
  | k + 1, i, h => by
    simp only [firstN] at h ⊢
    split
    · rename_i hg
      rw [if_pos hg] at h
      exact firstN_fails go k (i + 1) (by omega)
    · rename_i hg
      simpa using hg

theorem loopO_first {α β : Type} (f : α → Option (α ⊕ β)) (s : Nat → α) (n : Nat) (z : Nat → β) (go : Nat → Bool) (h : ∀ i, i < n → f (s i) = if go i then some (.inl (s (i + 1))) else some (.inr (z i))) (he : f (s n) = some (.inr (z n))) :
    loopO f (s 0) = some (z (firstN go 0 n)) := by
  have key : ∀ k i, i + k = n → loopO f (s i) = some (z (firstN go i k)) := by
    intro k
    induction k with
    | zero =>
      intro i hi
      obtain rfl : i = n := by omega
      rw [loopO_eq, he]
      rfl
    | succ k ih =>
      intro i hi
      rw [loopO_eq, h i (by omega)]
      simp only [firstN]
      cases go i with
      | true => simp only [if_true]; exact ih (i + 1) (by omega)
      | false => rfl
  exact key n 0 (by omega)

/-- A loop that asks each place. -/
theorem loopB (L : Int × Unit → Option ((Int × Unit) ⊕ (Bool × Unit))) (n : Nat) (hn : n ≤ maxLen) (go : Nat → Bool) (hs : ∀ i : Nat, i < n → L ((i : Int), ()) = bif go i then some (.inl (IntKind.i64.wrap ((i : Int) + 1), ())) else some (.inr (false, ())))
    (he : L ((n : Int), ()) = some (.inr (true, ()))) : loopO L (0, ()) = some ((List.range n).all go, ()) := by
  have h := loopO_first L (fun i => ((i : Int), ())) n (fun i => (decide (i = n), ())) go (fun i hi => by
    rw [hs i hi, w64 (by omega) (by simp only [maxLen] at hn; omega)]
    cases go i with
    | true => rfl
    | false => simp only [Bool.false_eq_true, if_false, cond_false]; rw [dec_false (by omega)]) (by rw [he]; simp)
  have h' : loopO L (0, ()) = some (decide (firstN go 0 n = n), ()) := h
  rw [h']
  have key : ∀ k i, decide (firstN go i k = i + k) = ((List.range k).all fun j => go (i + j)) := by
    intro k
    induction k with
    | zero => intro i; simp [firstN]
    | succ k ih =>
      intro i
      have e : ((List.range (k + 1)).all fun j => go (i + j)) = (go i && (List.range k).all fun j => go (i + 1 + j)) := by
        rw [List.range_succ_eq_map, List.all_cons, List.all_map]
        simp only [Nat.add_zero]
        congr 2
        funext j
        simp only [Function.comp]
        congr 1
        omega
      rw [e, ← ih (i + 1)]
      by_cases hg : go i = true
      · have e1 : firstN go i (k + 1) = firstN go (i + 1) k := by simp only [firstN]; rw [if_pos hg]
        rw [Bool.eq_iff_iff, hg]
        simp only [decide_eq_true_eq, Bool.true_and, e1]
        omega
      · have e1 : firstN go i (k + 1) = i := by simp only [firstN]; rw [if_neg hg]
        rw [Bool.eq_iff_iff]
        simp only [decide_eq_true_eq, Bool.and_eq_true, e1]
        constructor
        · intro h; omega
        · intro h; exact absurd h.1 hg
  have k0 := key n 0
  simp only [Nat.zero_add] at k0
  rw [k0]

theorem wrap_sub_wrap (x y : Int) : IntKind.i64.wrap (IntKind.i64.wrap x - y) = IntKind.i64.wrap (x - y) := by
  simp only [IntKind.wrap, IntKind.bits, IntKind.signed, Bool.true_and]
  simp
  split <;> split <;> split <;> omega
theorem wrap_lo (x : Int) : -9223372036854775808 ≤ IntKind.i64.wrap x := by
  simp only [IntKind.wrap, IntKind.bits, IntKind.signed, Bool.true_and]
  simp
  split <;> omega
theorem wrap_hi (x : Int) : IntKind.i64.wrap x < 9223372036854775808 := by
  simp only [IntKind.wrap, IntKind.bits, IntKind.signed, Bool.true_and]
  simp
  split <;> omega
end Go.Proofs.Ytiplpehengcinaa.Ev
