/- Rules for loops of plain functions, and for whole numbers that do not leave their kind. -/
import Derived.Test.YtiplpehengcinaaEvC
set_option linter.unusedVariables false
namespace Go.Proofs.Ytiplpehengcinaa.Ev

theorem w64 {n : Int} (h0 : -9223372036854775808 ≤ n) (h1 : n < 9223372036854775808) : IntKind.i64.wrap n = n := by
  simp only [IntKind.wrap, IntKind.bits, IntKind.signed, Bool.true_and]
  simp
  split <;> omega

theorem loopO_ind {α β : Type} (f : α → Option (α ⊕ β)) (μ : α → Nat) (I : α → Prop) (Q : β → Prop)
    (h : ∀ x, I x → (∃ y, f x = some (.inl y) ∧ I y ∧ μ y < μ x) ∨ ∃ z, f x = some (.inr z) ∧ Q z) : ∀ x, I x → ∃ z, loopO f x = some z ∧ Q z := by
  intro x
  generalize hn : μ x = n
  induction n using Nat.strongRecOn generalizing x with
  | ind n ih =>
    intro hx
    rw [loopO_eq]
    rcases h x hx with ⟨y, e, hy, hl⟩ | ⟨z, e, hz⟩
    · rw [e]; exact ih (μ y) (by omega) y rfl hy
    · rw [e]; exact ⟨z, rfl, hz⟩

theorem loopO_val {α β : Type} (f : α → Option (α ⊕ β)) (μ : α → Nat) (I : α → Prop) (z : β)
    (h : ∀ x, I x → (∃ y, f x = some (.inl y) ∧ I y ∧ μ y < μ x) ∨ f x = some (.inr z)) (x : α) (hx : I x) : loopO f x = some z := by
  obtain ⟨z', h1, rfl⟩ := loopO_ind f μ I (· = z) (fun x hx => (h x hx).imp id fun h => ⟨_, h, rfl⟩) x hx
  exact h1

/-- A loop that counts from 0 to n: its state at each count is known. -/
theorem loopO_count {α β : Type} (f : α → Option (α ⊕ β)) (s : Nat → α) (n : Nat) (z : β) (h : ∀ i, i < n → f (s i) = some (.inl (s (i + 1)))) (he : f (s n) = some (.inr z)) : loopO f (s 0) = some z := by
  have key : ∀ k i, i + k = n → loopO f (s i) = some z := by
    intro k
    induction k with
    | zero => intro i hi; rw [loopO_eq, show i = n by omega, he]
    | succ k ih => intro i hi; rw [loopO_eq, h i (by omega)]; exact ih (i + 1) (by omega)
  exact key n 0 (by omega)

/-- A loop that counts up and may leave at a place: what it tells is known for each. -/
theorem loopO_find {α β : Type} (f : α → Option (α ⊕ β)) (s : Nat → α) (n : Nat) (z : Nat → β) (go : Nat → Bool) (h : ∀ i, i < n → f (s i) = if go i then some (.inl (s (i + 1))) else some (.inr (z i))) (he : f (s n) = some (.inr (z n))) :
    ∃ i, i ≤ n ∧ (∀ j, j < i → go j = true) ∧ (i < n → go i = false) ∧ loopO f (s 0) = some (z i) := by
  have key : ∀ k i, i + k = n → (∀ j, j < i → go j = true) → ∃ i', i' ≤ n ∧ (∀ j, j < i' → go j = true) ∧ (i' < n → go i' = false) ∧ loopO f (s i) = some (z i') := by
    intro k
    induction k with
    | zero =>
      intro i hi hg
      obtain rfl : i = n := by omega
      exact ⟨i, Nat.le_refl _, hg, fun h => absurd h (by omega), by rw [loopO_eq, he]⟩
    | succ k ih =>
      intro i hi hg
      cases hgo : go i with
      | true =>
        obtain ⟨i', h1, h2, h3, h4⟩ := ih (i + 1) (by omega) (fun j hj => by
          by_cases h : j < i
          · exact hg j h
          · rw [show j = i by omega]; exact hgo)
        refine ⟨i', h1, h2, h3, ?_⟩
        rw [loopO_eq, h i (by omega), if_pos hgo]
        exact h4
      | false =>
        refine ⟨i, by omega, hg, fun _ => hgo, ?_⟩
        rw [loopO_eq, h i (by omega), hgo]
        rfl
  exact key n 0 (by omega) (fun j hj => by omega)

theorem bt_lo (s : ByteArray) (i : Int) : 0 ≤ bt s i := by unfold bt; omega
theorem bt_hi (s : ByteArray) (i : Int) : bt s i < 256 := by
  have := (s.data.toList.getD i.toNat 0).toNat_lt
  unfold bt; omega
theorem bt_w64 (s : ByteArray) (i : Int) : IntKind.i64.wrap (bt s i) = bt s i := w64 (by have := bt_lo s i; omega) (by have := bt_hi s i; omega)

theorem rd_nat {k : K} {xs : List k.T} {i : Nat} (h : i < xs.length) : rd k xs (i : Int) = xs[i] := by
  unfold rd
  rw [Int.toNat_natCast]
  simp [List.getD, h]

theorem rd_int {κ : IntKind} {xs : List Int} {i : Nat} (h : i < xs.length) : rd (.int κ) xs (i : Int) = xs[i] := rd_nat (k := .int κ) h
theorem rd_bool {xs : List Bool} {i : Nat} (h : i < xs.length) : rd .bool xs (i : Int) = xs[i] := rd_nat (k := .bool) h
theorem rd_str {xs : List ByteArray} {i : Nat} (h : i < xs.length) : rd .str xs (i : Int) = xs[i] := rd_nat (k := .str) h
theorem wf_int {κ : IntKind} {n : Int} (h : Wf (.int κ) n) : κ.min ≤ n ∧ n ≤ κ.max := by
  simp only [Wf, Lit.wf, Bool.and_eq_true, decide_eq_true_eq] at h
  exact h
theorem wf_i64 {n : Int} (h : Wf (.int .i64) n) : -9223372036854775808 ≤ n ∧ n ≤ 9223372036854775807 := by
  have := wf_int h
  simp only [IntKind.min, IntKind.max, IntKind.signed, IntKind.bits] at this
  simp at this
  omega
theorem wf_u8 {n : Int} (h : Wf (.int .u8) n) : 0 ≤ n ∧ n < 256 := by
  have := wf_int h
  simp only [IntKind.min, IntKind.max, IntKind.signed, IntKind.bits] at this
  simp at this
  omega
def Byt (a : List Int) : Prop := ∀ x ∈ a, 0 ≤ x ∧ x < 256
theorem byt_wf {a : List Int} (h : ∀ x ∈ a, Wf (.int .u8) x) : Byt a := fun x hx => wf_u8 (h x hx)
theorem pe {α β : Type} (p : α × β) : (p.1, p.2) = p := rfl
theorem dec_true {p : Prop} [Decidable p] (h : p) : decide p = true := decide_eq_true h
theorem dec_false {p : Prop} [Decidable p] (h : ¬ p) : decide p = false := decide_eq_false h
end Go.Proofs.Ytiplpehengcinaa.Ev
