/- What the plain functions of the program and of the reference answer: laws of plain data. -/
import Derived.Test.YtpdcljonclhhpaaGreatPu
import Derived.Laws.Strings
set_option linter.unusedVariables false
set_option linter.unusedSimpArgs false
namespace Go.Proofs.YtpdcljonclhhpaaGreat.Ev

theorem w64 {n : Int} (h0 : -9223372036854775808 ≤ n) (h1 : n < 9223372036854775808) : IntKind.i64.wrap n = n := by
  simp only [IntKind.wrap, IntKind.bits, IntKind.signed, Bool.true_and]
  simp
  split <;> omega
theorem loopO_ind {α β : Type} (f : α → Option (α ⊕ β)) (μ : α → Nat) (I : α → Prop) (Q : β → Prop)
    (h : ∀ x, I x → (∃ y, f x = some (.inl y) ∧ I y ∧ μ y < μ x) ∨ ∃ z, f x = some (.inr z) ∧ Q z) : ∀ x, I x → ∃ z, loopO f x = some z ∧ Q z := by
  intro x
  generalize hn : μ x = n
  induction n using Nat.strongRecOn generalizing x with
  | ind n ih =>
    intro hx
    rw [loopO_eq]
    rcases h x hx with ⟨y, e, hy, hl⟩ | ⟨z, e, hz⟩
    · rw [e]; exact ih (μ y) (by omega) y rfl hy
    · rw [e]; exact ⟨z, rfl, hz⟩
/-- A loop that counts from 0 to n: its state at each count is known. -/
theorem loopO_count {α β : Type} (f : α → Option (α ⊕ β)) (s : Nat → α) (n : Nat) (z : β) (h : ∀ i, i < n → f (s i) = some (.inl (s (i + 1)))) (he : f (s n) = some (.inr z)) : loopO f (s 0) = some z := by
  have key : ∀ k i, i + k = n → loopO f (s i) = some z := by
    intro k
    induction k with
    | zero => intro i hi; rw [loopO_eq, show i = n by omega, he]
    | succ k ih => intro i hi; rw [loopO_eq, h i (by omega)]; exact ih (i + 1) (by omega)
  exact key n 0 (by omega)
/-- A loop that counts up and may leave at a place: what it tells is known for each. -/
theorem loopO_find {α β : Type} (f : α → Option (α ⊕ β)) (s : Nat → α) (n : Nat) (z : Nat → β) (go : Nat → Bool) (h : ∀ i, i < n → f (s i) = if go i then some (.inl (s (i + 1))) else some (.inr (z i))) (he : f (s n) = some (.inr (z n))) :
    ∃ i, i ≤ n ∧ (∀ j, j < i → go j = true) ∧ (i < n → go i = false) ∧ loopO f (s 0) = some (z i) := by
  have key : ∀ k i, i + k = n → (∀ j, j < i → go j = true) → ∃ i', i' ≤ n ∧ (∀ j, j < i' → go j = true) ∧ (i' < n → go i' = false) ∧ loopO f (s i) = some (z i') := by
    intro k
    induction k with
    | zero =>
      intro i hi hg
      obtain rfl : i = n := by omega
      exact ⟨i, Nat.le_refl _, hg, fun h => absurd h (by omega), by rw [loopO_eq, he]⟩
    | succ k ih =>
      intro i hi hg
      cases hgo : go i with
      | true =>
        obtain ⟨i', h1, h2, h3, h4⟩ := ih (i + 1) (by omega) (fun j hj => by
          by_cases h : j < i
          · exact hg j h
          · rw [show j = i by omega]; exact hgo)
        refine ⟨i', h1, h2, h3, ?_⟩
        rw [loopO_eq, h i (by omega), if_pos hgo]
        exact h4
      | false =>
        refine ⟨i, by omega, hg, fun _ => hgo, ?_⟩
        rw [loopO_eq, h i (by omega), hgo]
        rfl
  exact key n 0 (by omega) (fun j hj => by omega)
theorem bt_lo (s : ByteArray) (i : Int) : 0 ≤ bt s i := by unfold bt; omega
theorem bt_hi (s : ByteArray) (i : Int) : bt s i < 256 := by
  have := (s.data.toList.getD i.toNat 0).toNat_lt
  unfold bt; omega
theorem bt_w64 (s : ByteArray) (i : Int) : IntKind.i64.wrap (bt s i) = bt s i := w64 (by have := bt_lo s i; omega) (by have := bt_hi s i; omega)
theorem rd_nat {k : K} {xs : List k.T} {i : Nat} (h : i < xs.length) : rd k xs (i : Int) = xs[i] := by
  unfold rd
  rw [Int.toNat_natCast]
  simp [List.getD, h]
theorem rd_int {κ : IntKind} {xs : List Int} {i : Nat} (h : i < xs.length) : rd (.int κ) xs (i : Int) = xs[i] := rd_nat (k := .int κ) h
theorem rd_str {xs : List ByteArray} {i : Nat} (h : i < xs.length) : rd .str xs (i : Int) = xs[i] := rd_nat (k := .str) h
theorem wf_int {κ : IntKind} {n : Int} (h : Wf (.int κ) n) : κ.min ≤ n ∧ n ≤ κ.max := by
  simp only [Wf, Lit.wf, Bool.and_eq_true, decide_eq_true_eq] at h
  exact h
theorem wf_i64 {n : Int} (h : Wf (.int .i64) n) : -9223372036854775808 ≤ n ∧ n ≤ 9223372036854775807 := by
  have := wf_int h
  simp only [IntKind.min, IntKind.max, IntKind.signed, IntKind.bits] at this
  simp at this
  omega
theorem wf_u8 {n : Int} (h : Wf (.int .u8) n) : 0 ≤ n ∧ n < 256 := by
  have := wf_int h
  simp only [IntKind.min, IntKind.max, IntKind.signed, IntKind.bits] at this
  simp at this
  omega
def Byt (a : List Int) : Prop := ∀ x ∈ a, 0 ≤ x ∧ x < 256
theorem byt_wf {a : List Int} (h : ∀ x ∈ a, Wf (.int .u8) x) : Byt a := fun x hx => wf_u8 (h x hx)
theorem dec_true {p : Prop} [Decidable p] (h : p) : decide p = true := decide_eq_true h
theorem dec_false {p : Prop} [Decidable p] (h : ¬ p) : decide p = false := decide_eq_false h

def Sm (N : Nat) : (k : K) → k.T → Prop
  | .int _, _ => True
  | .bool, _ => True
  | .fnc _, _ => True
  | .str, s => s.size ≤ N
  | .sl _ k, xs => xs.length ≤ N ∧ ∀ x ∈ xs, Sm N k x
  | .rs _ k, xs => xs.length ≤ N ∧ ∀ x ∈ xs, Sm N k x
  | .pair a b, x => Sm N a x.1 ∧ Sm N b x.2
theorem sm_wf : ∀ {k : K} {x : k.T}, Wf k x → Sm maxLen k x
  | .int _, _, _ => trivial
  | .bool, _, _ => trivial
  | .fnc _, _, _ => trivial
  | .str, _, h => h
  | .sl _ _, _, h => ⟨h.1, fun x hx => sm_wf (h.2 x hx)⟩
  | .rs _ _, _, h => ⟨h.1, fun x hx => sm_wf (h.2 x hx)⟩
  | .pair _ _, _, h => ⟨sm_wf h.1, sm_wf h.2⟩
theorem Sm.l {N : Nat} {a b : K} {x : (K.pair a b).T} (h : Sm N (.pair a b) x) : Sm N a x.1 := h.1
theorem Sm.r {N : Nat} {a b : K} {x : (K.pair a b).T} (h : Sm N (.pair a b) x) : Sm N b x.2 := h.2
def SzOk (P : Int → Option (Int × Unit)) (S : Prop) : Prop := ∀ l : Int, 0 ≤ l → l ≤ 1048576 → ∃ r, P l = some (r, ()) ∧ r ≤ l ∧ (0 ≤ r → S)
theorem szS_gen {T : Type} (f : T → Int → Option (Int × Unit)) (S : T → Prop) (L : Int × Int × Unit → Option ((Int × Int × Unit) ⊕ (Int × Unit))) (a : List T) (hn : a.length ≤ maxLen) (hf : ∀ x ∈ a, SzOk (f x) (S x))
    (hs : ∀ (i : Nat) (hi : i < a.length) (l : Int), L (l, (i : Int), ()) = bindO (f a[i] l) fun c => bif decide (c.1 < 0) then some (.inr (-1, ())) else some (.inl (c.1, IntKind.i64.wrap ((i : Int) + 1), ())))
    (he : ∀ l, L (l, (a.length : Int), ()) = some (.inr (l, ()))) : SzOk (fun l => loopO L (l, 0, ())) (∀ x ∈ a, S x) := by
  have key : ∀ k i, i + k = a.length → ∀ l : Int, 0 ≤ l → l ≤ 1048576 → ∃ r, loopO L (l, (i : Int), ()) = some (r, ()) ∧ r ≤ l ∧ (0 ≤ r → ∀ j (hj : j < a.length), i ≤ j → S a[j]) := by
    intro k
    induction k with
    | zero =>
      intro i hi l h0 h1
      obtain rfl : i = a.length := by omega
      exact ⟨l, by rw [loopO_eq, he], Int.le_refl _, fun _ j hj hi => by omega⟩
    | succ k ih =>
      intro i hi l h0 h1
      have hlt : i < a.length := by omega
      obtain ⟨r, e, h2, h3⟩ := hf a[i] (List.getElem_mem hlt) l h0 h1
      rw [loopO_eq, hs i hlt, e]
      simp only [bindO]
      by_cases hr : r < 0
      · rw [dec_true hr]
        exact ⟨-1, rfl, by omega, fun h => by omega⟩
      · rw [dec_false hr]
        simp only [cond_false]
        rw [w64 (by omega) (by simp only [maxLen] at hn; omega)]
        obtain ⟨r', e', h4, h5⟩ := ih (i + 1) (by omega) r (by omega) (by omega)
        refine ⟨r', by simpa using e', by omega, fun h j hj hij => ?_⟩
        by_cases hji : j = i
        · subst hji; exact h3 (by omega)
        · exact h5 h j hj (by omega)
  intro l h0 h1
  obtain ⟨r, e, h2, h3⟩ := key a.length 0 (by omega) l h0 h1
  refine ⟨r, by simpa using e, h2, fun h x hx => ?_⟩
  obtain ⟨j, hj, rfl⟩ := List.getElem_of_mem hx
  exact h3 h j hj (by omega)
theorem eqS_gen (L : Int × Unit → Option ((Int × Unit) ⊕ (Bool × Unit))) (n : Nat) (hn : n ≤ maxLen) (hs : ∀ i : Nat, i < n → L ((i : Int), ()) = some (.inl (IntKind.i64.wrap ((i : Int) + 1), ())))
    (he : L ((n : Int), ()) = some (.inr (true, ()))) : loopO L (0, ()) = some (true, ()) := by
  refine loopO_count L (fun i => ((i : Int), ())) n (true, ()) (fun i hi => ?_) he
  rw [hs i hi, w64 (by omega) (by simp only [maxLen] at hn; omega)]
  rfl
theorem toS_gen {T : Type} (L : Int × List T × Unit → Option ((Int × List T × Unit) ⊕ (List T × Unit))) (a : List T) (z : T) (hn : a.length ≤ maxLen)
    (hs : ∀ (i : Nat) (hi : i < a.length) (b : List T), b.length = a.length → L ((i : Int), b, ()) = some (.inl (IntKind.i64.wrap ((i : Int) + 1), b.set i a[i], ())))
    (he : ∀ b, L ((a.length : Int), b, ()) = some (.inr (b, ()))) : loopO L (0, List.replicate a.length z, ()) = some (a, ()) := by
  have key := loopO_count L (fun i => ((i : Int), a.take i ++ List.replicate (a.length - i) z, ())) a.length (a, ()) (fun i hi => ?_) ?_
  · simpa using key
  · have hl : (a.take i ++ List.replicate (a.length - i) z).length = a.length := by simp; omega
    rw [hs i hi _ hl, w64 (by omega) (by simp only [maxLen] at hn; omega)]
    have : (a.take i ++ List.replicate (a.length - i) z).set i a[i] = a.take (i + 1) ++ List.replicate (a.length - (i + 1)) z := by
      rw [List.set_append_right _ _ (by simp; omega)]
      rw [List.take_succ_eq_append_getElem hi, List.append_assoc]
      congr 1
      rw [show (a.take i).length = i by simp; omega, Nat.sub_self, show a.length - i = (a.length - (i + 1)) + 1 by omega, List.replicate_succ]
      rfl
    rw [this]
    rfl
  · rw [he]
    simp

theorem loopN_congr {α β : Type} {f g : α → Option (α ⊕ β)} (I : α → Prop) (h : ∀ x, I x → f x = g x) (hI : ∀ x y, I x → f x = some (.inl y) → I y) : ∀ n x, I x → loopN f n x = loopN g n x
  | 0, _, _ => rfl
  | n + 1, x, hx => by
    simp only [loopN, ← h x hx]
    cases e : f x with
    | none => rfl
    | some v =>
      cases v with
      | inl y => exact loopN_congr I h hI n y (hI x y hx e)
      | inr z => rfl
theorem loopO_congr {α β : Type} {f g : α → Option (α ⊕ β)} (I : α → Prop) (h : ∀ x, I x → f x = g x) (hI : ∀ x y, I x → f x = some (.inl y) → I y) {x : α} (hx : I x) : loopO f x = loopO g x := by
  cases e : loopO g x with
  | some z =>
    obtain ⟨n, hn⟩ := loopO_spec e
    exact loopO_of (n := n) (by rw [loopN_congr I h hI n x hx]; exact hn)
  | none =>
    cases e' : loopO f x with
    | none => rfl
    | some z =>
      obtain ⟨n, hn⟩ := loopO_spec e'
      rw [loopN_congr I h hI n x hx] at hn
      rw [loopO_of hn] at e
      cases e
def firstN (go : Nat → Bool) : Nat → Nat → Nat
  | i, 0 => i
  | i, k + 1 => if go i then firstN go (i + 1) k else i
theorem firstN_le (go : Nat → Bool) : ∀ k i, firstN go i k ≤ i + k
  | 0, i => Nat.le_refl _
  | k + 1, i => by
    simp only [firstN]
    split
    · have := firstN_le go k (i + 1); omega
    · omega
theorem firstN_fails (go : Nat → Bool) : ∀ k i, firstN go i k < i + k → go (firstN go i k) = false
  | 0, i, h => by simp [firstN] at h
  | k + 1, i, h => by
    simp only [firstN] at h ⊢
    split
    · rename_i hg
      rw [if_pos hg] at h
      exact firstN_fails go k (i + 1) (by omega)
    · rename_i hg
      simpa using hg
theorem loopO_first {α β : Type} (f : α → Option (α ⊕ β)) (s : Nat → α) (n : Nat) (z : Nat → β) (go : Nat → Bool) (h : ∀ i, i < n → f (s i) = if go i then some (.inl (s (i + 1))) else some (.inr (z i))) (he : f (s n) = some (.inr (z n))) :
    loopO f (s 0) = some (z (firstN go 0 n)) := by
  have key : ∀ k i, i + k = n → loopO f (s i) = some (z (firstN go i k)) := by
    intro k
    induction k with
    | zero =>
      intro i hi
      obtain rfl : i = n := by omega
      rw [loopO_eq, he]
      rfl
    | succ k ih =>
      intro i hi
      rw [loopO_eq, h i (by omega)]
      simp only [firstN]
      cases go i with
      | true => simp only [if_true]; exact ih (i + 1) (by omega)
      | false => rfl
  exact key n 0 (by omega)
/-- A loop that asks each place. -/
theorem loopB (L : Int × Unit → Option ((Int × Unit) ⊕ (Bool × Unit))) (n : Nat) (hn : n ≤ maxLen) (go : Nat → Bool) (hs : ∀ i : Nat, i < n → L ((i : Int), ()) = bif go i then some (.inl (IntKind.i64.wrap ((i : Int) + 1), ())) else some (.inr (false, ())))
    (he : L ((n : Int), ()) = some (.inr (true, ()))) : loopO L (0, ()) = some ((List.range n).all go, ()) := by
  have h := loopO_first L (fun i => ((i : Int), ())) n (fun i => (decide (i = n), ())) go (fun i hi => by
    rw [hs i hi, w64 (by omega) (by simp only [maxLen] at hn; omega)]
    cases go i with
    | true => rfl
    | false => simp only [Bool.false_eq_true, if_false, cond_false]; rw [dec_false (by omega)]) (by rw [he]; simp)
  have h' : loopO L (0, ()) = some (decide (firstN go 0 n = n), ()) := h
  rw [h']
  have key : ∀ k i, decide (firstN go i k = i + k) = ((List.range k).all fun j => go (i + j)) := by
    intro k
    induction k with
    | zero => intro i; simp [firstN]
    | succ k ih =>
      intro i
      have e : ((List.range (k + 1)).all fun j => go (i + j)) = (go i && (List.range k).all fun j => go (i + 1 + j)) := by
        rw [List.range_succ_eq_map, List.all_cons, List.all_map]
        simp only [Nat.add_zero]
        congr 2
        funext j
        simp only [Function.comp]
        congr 1
        omega
      rw [e, ← ih (i + 1)]
      by_cases hg : go i = true
      · have e1 : firstN go i (k + 1) = firstN go (i + 1) k := by simp only [firstN]; rw [if_pos hg]
        rw [Bool.eq_iff_iff, hg]
        simp only [decide_eq_true_eq, Bool.true_and, e1]
        omega
      · have e1 : firstN go i (k + 1) = i := by simp only [firstN]; rw [if_neg hg]
        rw [Bool.eq_iff_iff]
        simp only [decide_eq_true_eq, Bool.and_eq_true, e1]
        constructor
        · intro h; omega
        · intro h; exact absurd h.1 hg
  have k0 := key n 0
  simp only [Nat.zero_add] at k0
  rw [k0]

theorem eqByteS_refl (a : List Int) (h : a.length ≤ maxLen) : P_w_eqByteS a a = some (true, ()) := by
  simp only [P_w_eqByteS, B_w_eqByteS]
  simp only [decide_true, Bool.not_true, cond_false]
  refine loopO_count (L_w_eqByteS_0 a a) (fun i => ((i : Int), ())) a.length (true, ()) (fun i hi => ?_) ?_
  · have h1 : ((i : Int) < (a.length : Int)) := by omega
    have h2 : (0 : Int) ≤ (i : Int) := by omega
    simp only [L_w_eqByteS_0, dec_true h1, dec_true h2, cond_true, decide_true, Bool.not_true, cond_false]
    rw [w64 (by omega) (by simp only [maxLen] at h; omega)]
    rfl
  · simp [L_w_eqByteS_0]
theorem toByteS_eq (a : List Int) (h : a.length ≤ 281474976710656) : P_w_toByteS a = some (a, ()) := by
  simp only [P_w_toByteS, B_w_toByteS]
  have h1 : (0 : Int) ≤ (a.length : Int) := by omega
  rw [dec_true h1, Int.toNat_natCast, dec_true (show a.length ≤ 9223372036854775807 by omega), dec_true (show 1 * a.length ≤ 281474976710656 by omega)]
  simp only [cond_true]
  have key := loopO_count (L_w_toByteS_0 a) (fun i => ((i : Int), a.take i ++ List.replicate (a.length - i) 0, ())) a.length (a, ()) (fun i hi => ?_) ?_
  · simpa using key
  · have h1 : ((i : Int) < (a.length : Int)) := by omega
    have h2 : (0 : Int) ≤ (i : Int) := by omega
    have hl : (a.take i ++ List.replicate (a.length - i) (0 : Int)).length = a.length := by simp; omega
    simp only [L_w_toByteS_0, hl, dec_true h1, dec_true h2, cond_true]
    rw [w64 (by omega) (by omega), Int.toNat_natCast, rd_nat hi]
    have : (a.take i ++ List.replicate (a.length - i) (0 : Int)).set i a[i] = a.take (i + 1) ++ List.replicate (a.length - (i + 1)) 0 := by
      rw [List.set_append_right _ _ (by simp; omega)]
      rw [List.take_succ_eq_append_getElem hi, List.append_assoc]
      congr 1
      rw [show (a.take i).length = i by simp; omega, Nat.sub_self, show a.length - i = (a.length - (i + 1)) + 1 by omega, List.replicate_succ]
      rfl
    rw [this]
    rfl
  · simp [L_w_toByteS_0]
theorem szByteS_eq (a : List Int) (l : Int) (h0 : l ≤ 1048576) (h1 : 0 ≤ l) (h : a.length ≤ maxLen) : P_w_szByteS a l = some (if (a.length : Int) ≤ l then (l - a.length : Int) else -1, ()) := by
  simp only [P_w_szByteS, B_w_szByteS, maxLen] at *
  rw [w64 (by omega) (by omega)]
  split
  · rw [dec_false (by omega)]; rfl
  · rw [dec_true (by omega)]; rfl
def marked (m : Int) (n : Nat) : List Int := (List.range n).map fun j => IntKind.u8.wrap (m + (j : Nat))
theorem markByteS_eq (a : List Int) (m : Int) (h0 : 0 ≤ m) (h : m + a.length < 9223372036854775808) : P_w_markByteS a m = some (m + a.length, marked m a.length, ()) := by
  simp only [P_w_markByteS, B_w_markByteS]
  have key := loopO_count L_w_markByteS_0 (fun i => (m + (i : Int), (i : Int), marked m i ++ a.drop i, ())) a.length (m + a.length, marked m a.length, ()) (fun i hi => ?_) ?_
  · simpa [marked] using key
  · have h1 : ((i : Int) < (a.length : Int)) := by omega
    have h2 : (0 : Int) ≤ (i : Int) := by omega
    have hl : (marked m i ++ a.drop i).length = a.length := by simp [marked]; omega
    simp only [L_w_markByteS_0, hl, dec_true h1, dec_true h2, cond_true]
    rw [w64 (by omega) (by omega), w64 (by omega) (by omega), Int.toNat_natCast]
    have : (marked m i ++ a.drop i).set i (IntKind.u8.wrap (m + (i : Int))) = marked m (i + 1) ++ a.drop (i + 1) := by
      rw [List.set_append_right _ _ (by simp [marked])]
      rw [show (marked m i).length = i by simp [marked], Nat.sub_self, List.drop_eq_getElem_cons hi, List.set_cons_zero]
      simp [marked, List.range_succ]
    rw [this]
    simp only [Int.natCast_add, Int.natCast_one, Int.add_assoc]
  · simp [L_w_markByteS_0, marked]
theorem heldByteS_eq (n : Nat) (m : Int) (h0 : 0 ≤ m) (h : m + n < 9223372036854775808) : P_w_heldByteS (marked m n) m = some (m + n, ()) := by
  simp only [P_w_heldByteS, B_w_heldByteS]
  have hl : (marked m n).length = n := by simp [marked]
  have key := loopO_count (L_w_heldByteS_0 (marked m n)) (fun i => (m + (i : Int), (i : Int), ())) n (m + n, ()) (fun i hi => ?_) ?_
  · simpa [marked] using key
  · have h1 : ((i : Int) < (n : Int)) := by omega
    have h2 : (0 : Int) ≤ (i : Int) := by omega
    simp only [L_w_heldByteS_0, hl, dec_true h1, dec_true h2, cond_true]
    have hr : rd (.int .u8) (marked m n) (i : Int) = IntKind.u8.wrap (m + (i : Int)) := by
      rw [rd_nat (by rw [hl]; exact hi)]
      simp [marked]
    rw [hr, w64 (by omega) (by omega), w64 (by omega) (by omega)]
    simp only [decide_true, Bool.not_true, cond_false, Int.natCast_add, Int.natCast_one, Int.add_assoc]
  · simp [L_w_heldByteS_0, hl]
theorem szByteS_ok (a : List Int) (h : Sm maxLen (.sl 0 (.int .u8)) a) : SzOk (P_w_szByteS a) (Sm 1048576 (.sl 0 (.int .u8)) a) := by
  intro l h0 h1
  refine ⟨_, szByteS_eq a l h1 h0 h.1, ?_, fun hr => ⟨?_, fun x _ => trivial⟩⟩
  · split <;> omega
  · split at hr <;> omega
theorem toByteS_sm (a : List Int) (h : Sm 1048576 (.sl 0 (.int .u8)) a) : P_w_toByteS a = some (a, ()) := toByteS_eq a (by have := h.1; omega)
theorem eqByteS_sm (a : List Int) (h : Sm maxLen (.sl 0 (.int .u8)) a) : P_w_eqByteS a a = some (true, ()) := eqByteS_refl a h.1
theorem szStringS_ok (a : List ByteArray) (h : Sm maxLen (.sl 9 .str) a) : SzOk (P_w_szStringS a) (Sm 1048576 (.sl 9 .str) a) := by
  have hl : a.length ≤ 9223372036854775807 := h.1
  intro l h0 h1
  simp only [P_w_szStringS, B_w_szStringS]
  rw [w64 (by omega) (by omega)]
  by_cases hn : l - (a.length : Int) < 0
  · rw [dec_true hn]; exact ⟨-1, rfl, by omega, fun h => by omega⟩
  rw [dec_false hn]; simp only [cond_false]
  obtain ⟨r, e, h2, h3⟩ := szS_gen (fun (x : ByteArray) l => some (IntKind.i64.wrap (l - (x.size : Int)), ())) (fun x => Sm 1048576 .str x) (L_w_szStringS_0 a) a h.1 (fun x hx l h0 h1 => ⟨_, rfl, by have := h.2 x hx; simp only [Sm, maxLen] at this; rw [w64 (by omega) (by omega)]; omega, fun hr => by have := h.2 x hx; simp only [Sm, maxLen] at this ⊢; rw [w64 (by omega) (by omega)] at hr; omega⟩) (by
    intro i hi l
    have g1 : ((i : Int) < (a.length : Int)) := by omega
    have g2 : (0 : Int) ≤ (i : Int) := by omega
    simp only [L_w_szStringS_0, dec_true g1, dec_true g2, cond_true]
    rw [rd_str (xs := a) hi]
    rfl
    ) (fun l => by simp [L_w_szStringS_0]) (l - (a.length : Int)) (by omega) (by omega)
  exact ⟨r, e, by omega, fun h => ⟨by omega, h3 h⟩⟩
theorem szDisk_ok (a : TDisk) (h : Sm maxLen kDisk a) : SzOk (P_w_szDisk a) (Sm 1048576 kDisk a) := by
  intro l h0 h1
  simp only [P_w_szDisk, B_w_szDisk]
  obtain ⟨r1, e1, u1, v1⟩ := szStringS_ok a.1 (Sm.l h) l (by omega) (by omega)
  rw [e1]; simp only [bindO]
  by_cases n1 : r1 < 0
  · rw [dec_true n1]; exact ⟨-1, rfl, by omega, fun h => by omega⟩
  rw [dec_false n1]; simp only [cond_false]
  obtain ⟨r2, e2, u2, v2⟩ := szStringS_ok a.2 (Sm.r h) r1 (by omega) (by omega)
  rw [e2]; simp only [bindO]
  by_cases n2 : r2 < 0
  · rw [dec_true n2]; exact ⟨-1, rfl, by omega, fun h => by omega⟩
  rw [dec_false n2]; simp only [cond_false]
  exact ⟨_, rfl, by omega, fun _ => ⟨v1 (by omega), v2 (by omega)⟩⟩
theorem szHeldS_ok (a : List THeld) (h : Sm maxLen (.sl 203 kHeld) a) : SzOk (P_w_szHeldS a) (Sm 1048576 (.sl 203 kHeld) a) := by
  have hl : a.length ≤ 9223372036854775807 := h.1
  intro l h0 h1
  simp only [P_w_szHeldS, B_w_szHeldS]
  rw [w64 (by omega) (by omega)]
  by_cases hn : l - (a.length : Int) < 0
  · rw [dec_true hn]; exact ⟨-1, rfl, by omega, fun h => by omega⟩
  rw [dec_false hn]; simp only [cond_false]
  exact ⟨_, rfl, by omega, fun _ => ⟨by omega, fun x _ => by simp [Sm]⟩⟩
theorem szReq_ok (a : TReq) (h : Sm maxLen kReq a) : SzOk (P_w_szReq a) (Sm 1048576 kReq a) := by
  intro l h0 h1
  simp only [P_w_szReq, B_w_szReq]
  have z1 : a.2.1.size ≤ 9223372036854775807 := (Sm.l (Sm.r h))
  rw [w64 (n := l - (a.2.1.size : Int)) (by omega) (by omega)]
  by_cases n1 : l - (a.2.1.size : Int) < 0
  · rw [dec_true n1]; exact ⟨-1, rfl, by omega, fun h => by omega⟩
  rw [dec_false n1]; simp only [cond_false]
  exact ⟨_, rfl, by omega, fun _ => ⟨by simp [Sm], ⟨by show a.2.1.size ≤ 1048576; omega, by simp [Sm]⟩⟩⟩
theorem szUp_ok (a : TUp) (h : Sm maxLen kUp a) : SzOk (P_w_szUp a) (Sm 1048576 kUp a) := by
  intro l h0 h1
  simp only [P_w_szUp, B_w_szUp]
  have z1 : a.1.size ≤ 9223372036854775807 := (Sm.l h)
  rw [w64 (n := l - (a.1.size : Int)) (by omega) (by omega)]
  by_cases n1 : l - (a.1.size : Int) < 0
  · rw [dec_true n1]; exact ⟨-1, rfl, by omega, fun h => by omega⟩
  rw [dec_false n1]; simp only [cond_false]
  obtain ⟨r2, e2, u2, v2⟩ := szByteS_ok a.2.2.1 (Sm.l (Sm.r (Sm.r h))) (l - (a.1.size : Int)) (by omega) (by omega)
  rw [e2]; simp only [bindO]
  by_cases n2 : r2 < 0
  · rw [dec_true n2]; exact ⟨-1, rfl, by omega, fun h => by omega⟩
  rw [dec_false n2]; simp only [cond_false]
  exact ⟨_, rfl, by omega, fun _ => ⟨by show a.1.size ≤ 1048576; omega, ⟨by simp [Sm], ⟨v2 (by omega), by simp [Sm]⟩⟩⟩⟩
theorem szUpS_ok (a : List TUp) (h : Sm maxLen (.sl 248 kUp) a) : SzOk (P_w_szUpS a) (Sm 1048576 (.sl 248 kUp) a) := by
  have hl : a.length ≤ 9223372036854775807 := h.1
  intro l h0 h1
  simp only [P_w_szUpS, B_w_szUpS]
  rw [w64 (by omega) (by omega)]
  by_cases hn : l - (a.length : Int) < 0
  · rw [dec_true hn]; exact ⟨-1, rfl, by omega, fun h => by omega⟩
  rw [dec_false hn]; simp only [cond_false]
  obtain ⟨r, e, h2, h3⟩ := szS_gen P_w_szUp (fun x => Sm 1048576 kUp x) (L_w_szUpS_0 P_w_szUp a) a h.1 (fun x hx => szUp_ok x (h.2 x hx)) (by
    intro i hi l
    have g1 : ((i : Int) < (a.length : Int)) := by omega
    have g2 : (0 : Int) ≤ (i : Int) := by omega
    simp only [L_w_szUpS_0, dec_true g1, dec_true g2, cond_true]
    rw [rd_nat (k := kUp) (xs := a) hi]
    ) (fun l => by simp [L_w_szUpS_0]) (l - (a.length : Int)) (by omega) (by omega)
  exact ⟨r, e, by omega, fun h => ⟨by omega, h3 h⟩⟩
theorem szStore_ok (a : TStore) (h : Sm maxLen kStorex a) : SzOk (P_w_szStore a) (Sm 1048576 kStorex a) := by
  intro l h0 h1
  simp only [P_w_szStore, B_w_szStore]
  obtain ⟨r1, e1, u1, v1⟩ := szDisk_ok a.1 (Sm.l h) l (by omega) (by omega)
  rw [e1]; simp only [bindO]
  by_cases n1 : r1 < 0
  · rw [dec_true n1]; exact ⟨-1, rfl, by omega, fun h => by omega⟩
  rw [dec_false n1]; simp only [cond_false]
  obtain ⟨r2, e2, u2, v2⟩ := szUpS_ok a.2.2.2 (Sm.r (Sm.r (Sm.r h))) r1 (by omega) (by omega)
  rw [e2]; simp only [bindO]
  by_cases n2 : r2 < 0
  · rw [dec_true n2]; exact ⟨-1, rfl, by omega, fun h => by omega⟩
  rw [dec_false n2]; simp only [cond_false]
  exact ⟨_, rfl, by omega, fun _ => ⟨v1 (by omega), ⟨by simp [Sm], ⟨by simp [Sm], v2 (by omega)⟩⟩⟩⟩
theorem szServer_ok (a : TServer) (h : Sm maxLen kServerx a) : SzOk (P_w_szServer a) (Sm 1048576 kServerx a) := by
  intro l h0 h1
  simp only [P_w_szServer, B_w_szServer]
  obtain ⟨r1, e1, u1, v1⟩ := szStore_ok a.1 (Sm.l h) l (by omega) (by omega)
  rw [e1]; simp only [bindO]
  by_cases n1 : r1 < 0
  · rw [dec_true n1]; exact ⟨-1, rfl, by omega, fun h => by omega⟩
  rw [dec_false n1]; simp only [cond_false]
  obtain ⟨r2, e2, u2, v2⟩ := szHeldS_ok a.2 (Sm.r h) r1 (by omega) (by omega)
  rw [e2]; simp only [bindO]
  by_cases n2 : r2 < 0
  · rw [dec_true n2]; exact ⟨-1, rfl, by omega, fun h => by omega⟩
  rw [dec_false n2]; simp only [cond_false]
  exact ⟨_, rfl, by omega, fun _ => ⟨v1 (by omega), v2 (by omega)⟩⟩
theorem toStringS_eq (a : List ByteArray) (h : Sm 1048576 (.sl 9 .str) a) : P_w_toStringS a = some (a, ()) := by
  have hl : a.length ≤ 1048576 := h.1
  simp only [P_w_toStringS, B_w_toStringS]
  rw [dec_true (show (0 : Int) ≤ (a.length : Int) by omega), Int.toNat_natCast, dec_true (by omega), dec_true (by omega)]
  simp only [cond_true]
  refine toS_gen _ a _ (by simp only [maxLen]; omega) (fun i hi b hb => ?_) (fun b => by simp [L_w_toStringS_0])
  have h1 : ((i : Int) < (a.length : Int)) := by omega
  have h2 : (0 : Int) ≤ (i : Int) := by omega
  simp only [L_w_toStringS_0, hb, dec_true h1, dec_true h2, cond_true]
  rw [rd_str (xs := a) hi]
  rfl
theorem toDisk_eq (a : TDisk) (h : Sm 1048576 kDisk a) : P_w_toDisk a = some (a, ()) := by
  simp only [P_w_toDisk, B_w_toDisk, bindO, toStringS_eq a.1 (Sm.l h), toStringS_eq a.2 (Sm.r h)]
theorem toResp_sm (a : TResp) (h : Sm 1048576 kResp a) : P_w_toResp a = some (a, ()) := by
  simp only [P_w_toResp, B_w_toResp, bindO]
theorem toHeld_eq (a : THeld) (h : Sm 1048576 kHeld a) : P_w_toHeld a = some (a, ()) := by
  simp only [P_w_toHeld, B_w_toHeld, bindO, toResp_sm a.2 (Sm.r h)]
theorem toHeldS_eq (a : List THeld) (h : Sm 1048576 (.sl 203 kHeld) a) : P_w_toHeldS a = some (a, ()) := by
  have hl : a.length ≤ 1048576 := h.1
  simp only [P_w_toHeldS, B_w_toHeldS]
  rw [dec_true (show (0 : Int) ≤ (a.length : Int) by omega), Int.toNat_natCast, dec_true (by omega), dec_true (by omega)]
  simp only [cond_true]
  refine toS_gen _ a _ (by simp only [maxLen]; omega) (fun i hi b hb => ?_) (fun b => by simp [L_w_toHeldS_0])
  have h1 : ((i : Int) < (a.length : Int)) := by omega
  have h2 : (0 : Int) ≤ (i : Int) := by omega
  simp only [L_w_toHeldS_0, hb, dec_true h1, dec_true h2, cond_true]
  rw [rd_nat (k := kHeld) (xs := a) hi]
  rw [toHeld_eq _ (h.2 _ (List.getElem_mem hi))]
  rfl
theorem toReq_eq (a : TReq) (h : Sm 1048576 kReq a) : P_w_toReq a = some (a, ()) := by
  simp only [P_w_toReq, B_w_toReq, bindO]
theorem toUp_eq (a : TUp) (h : Sm 1048576 kUp a) : P_w_toUp a = some (a, ()) := by
  simp only [P_w_toUp, B_w_toUp, bindO, toByteS_sm a.2.2.1 (Sm.l (Sm.r (Sm.r h)))]
theorem toUpS_eq (a : List TUp) (h : Sm 1048576 (.sl 248 kUp) a) : P_w_toUpS a = some (a, ()) := by
  have hl : a.length ≤ 1048576 := h.1
  simp only [P_w_toUpS, B_w_toUpS]
  rw [dec_true (show (0 : Int) ≤ (a.length : Int) by omega), Int.toNat_natCast, dec_true (by omega), dec_true (by omega)]
  simp only [cond_true]
  refine toS_gen _ a _ (by simp only [maxLen]; omega) (fun i hi b hb => ?_) (fun b => by simp [L_w_toUpS_0])
  have h1 : ((i : Int) < (a.length : Int)) := by omega
  have h2 : (0 : Int) ≤ (i : Int) := by omega
  simp only [L_w_toUpS_0, hb, dec_true h1, dec_true h2, cond_true]
  rw [rd_nat (k := kUp) (xs := a) hi]
  rw [toUp_eq _ (h.2 _ (List.getElem_mem hi))]
  rfl
theorem toStore_eq (a : TStore) (h : Sm 1048576 kStorex a) : P_w_toStore a = some (a, ()) := by
  simp only [P_w_toStore, B_w_toStore, bindO, toDisk_eq a.1 (Sm.l h), toUpS_eq a.2.2.2 (Sm.r (Sm.r (Sm.r h)))]
theorem toServer_eq (a : TServer) (h : Sm 1048576 kServerx a) : P_w_toServer a = some (a, ()) := by
  simp only [P_w_toServer, B_w_toServer, bindO, toStore_eq a.1 (Sm.l h), toHeldS_eq a.2 (Sm.r h)]
theorem eqStringS_refl (a : List ByteArray) (h : Sm maxLen (.sl 9 .str) a) : P_w_eqStringS a a = some (true, ()) := by
  simp only [P_w_eqStringS, B_w_eqStringS, decide_true, Bool.not_true, cond_false]
  refine eqS_gen _ a.length h.1 (fun i hi => ?_) (by simp [L_w_eqStringS_0])
  have h1 : ((i : Int) < (a.length : Int)) := by omega
  have h2 : (0 : Int) ≤ (i : Int) := by omega
  simp only [L_w_eqStringS_0, dec_true h1, dec_true h2, cond_true]
  simp
theorem eqDisk_refl (a : TDisk) (h : Sm maxLen kDisk a) : P_w_eqDisk a a = some (true, ()) := by
  simp [P_w_eqDisk, B_w_eqDisk, bindO, eqStringS_refl a.1 (Sm.l h), eqStringS_refl a.2 (Sm.r h)]
theorem eqResp_refl (a : TResp) (h : Sm maxLen kResp a) : P_w_eqResp a a = some (true, ()) := by
  simp [P_w_eqResp, B_w_eqResp, bindO]
theorem eqHeld_refl (a : THeld) (h : Sm maxLen kHeld a) : P_w_eqHeld a a = some (true, ()) := by
  simp [P_w_eqHeld, B_w_eqHeld, bindO, eqResp_refl a.2 (Sm.r h)]
theorem eqHeldS_refl (a : List THeld) (h : Sm maxLen (.sl 130 kHeld) a) : P_w_eqHeldS a a = some (true, ()) := by
  simp only [P_w_eqHeldS, B_w_eqHeldS, decide_true, Bool.not_true, cond_false]
  refine eqS_gen _ a.length h.1 (fun i hi => ?_) (by simp [L_w_eqHeldS_0])
  have h1 : ((i : Int) < (a.length : Int)) := by omega
  have h2 : (0 : Int) ≤ (i : Int) := by omega
  simp only [L_w_eqHeldS_0, dec_true h1, dec_true h2, cond_true]
  rw [rd_nat (k := kHeld) (xs := a) hi, eqHeld_refl _ (h.2 _ (List.getElem_mem hi))]
  rfl
theorem eqUp_refl (a : TUp) (h : Sm maxLen kUp a) : P_w_eqUp a a = some (true, ()) := by
  simp [P_w_eqUp, B_w_eqUp, bindO, eqByteS_sm a.2.2.1 (Sm.l (Sm.r (Sm.r h)))]
theorem eqUpS_refl (a : List TUp) (h : Sm maxLen (.sl 109 kUp) a) : P_w_eqUpS a a = some (true, ()) := by
  simp only [P_w_eqUpS, B_w_eqUpS, decide_true, Bool.not_true, cond_false]
  refine eqS_gen _ a.length h.1 (fun i hi => ?_) (by simp [L_w_eqUpS_0])
  have h1 : ((i : Int) < (a.length : Int)) := by omega
  have h2 : (0 : Int) ≤ (i : Int) := by omega
  simp only [L_w_eqUpS_0, dec_true h1, dec_true h2, cond_true]
  rw [rd_nat (k := kUp) (xs := a) hi, eqUp_refl _ (h.2 _ (List.getElem_mem hi))]
  rfl
theorem eqStore_refl (a : TStore) (h : Sm maxLen kStore a) : P_w_eqStore a a = some (true, ()) := by
  simp [P_w_eqStore, B_w_eqStore, bindO, eqDisk_refl a.1 (Sm.l h), eqUpS_refl a.2.2.2 (Sm.r (Sm.r (Sm.r h)))]
theorem eqServer_refl (a : TServer) (h : Sm maxLen kServer a) : P_w_eqServer a a = some (true, ()) := by
  simp [P_w_eqServer, B_w_eqServer, bindO, eqStore_refl a.1 (Sm.l h), eqHeldS_refl a.2 (Sm.r h)]

theorem l1In_eq (a b c : Int) : P_s_l1In a b c = some (decide (b ≤ a ∧ a ≤ c), ()) := by
  simp only [P_s_l1In, B_s_l1In]
  by_cases h : b ≤ a <;> by_cases h2 : a ≤ c <;> simp [h, h2]
theorem inRange_eq (a b c : Int) : P_i_inRange a b c = some (decide (b ≤ a ∧ a ≤ c), ()) := l1In_eq a b c
def idCh (s : ByteArray) (i : Nat) : Bool := decide (97 ≤ bt s i ∧ bt s i ≤ 122) || decide (48 ≤ bt s i ∧ bt s i ≤ 57)
def idB (s : ByteArray) : Bool := (List.range s.size).all (idCh s) && decide (1 ≤ (s.size : Int) ∧ (s.size : Int) ≤ 8)
theorem l11Id_step (s : ByteArray) (h : s.size ≤ maxLen) (i : Nat) (hi : i < s.size) : L_s_l11Id_0 P_s_l1In s ((i : Int), ()) = if idCh s i then some (.inl (((i + 1 : Nat) : Int), ())) else some (.inr (.inr (false, ()))) := by
  have h1 : ((i : Int) < (s.size : Int)) := by omega
  have h2 : (0 : Int) ≤ (i : Int) := by omega
  simp only [L_s_l11Id_0, dec_true h1, dec_true h2, cond_true, bt_w64, l1In_eq, bindO]
  rw [w64 (by omega) (by simp only [maxLen] at h; omega)]
  unfold idCh
  cases decide (97 ≤ bt s i ∧ bt s i ≤ 122) <;> cases decide (48 ≤ bt s i ∧ bt s i ≤ 57) <;> simp
theorem idOk_step (s : ByteArray) (h : s.size ≤ maxLen) (i : Nat) (hi : i < s.size) : L_i_idOk_0 s ((i : Int), ()) = if idCh s i then some (.inl (((i + 1 : Nat) : Int), ())) else some (.inr (.inr (false, ()))) := by
  have h1 : ((i : Int) < (s.size : Int)) := by omega
  have h2 : (0 : Int) ≤ (i : Int) := by omega
  simp only [L_i_idOk_0, dec_true h1, dec_true h2, cond_true]
  rw [w64 (by omega) (by simp only [maxLen] at h; omega)]
  unfold idCh
  by_cases a : bt s i ≥ 97 <;> by_cases b : bt s i ≤ 122 <;> by_cases c : bt s i ≥ 48 <;> by_cases d : bt s i ≤ 57 <;> simp [a, b, c, d]
theorem id_of {s : ByteArray} {f : Int × Unit → Option ((Int × Unit) ⊕ (Unit ⊕ (Bool × Unit)))} (hs : ∀ i : Nat, i < s.size → f ((i : Int), ()) = if idCh s i then some (.inl (((i + 1 : Nat) : Int), ())) else some (.inr (.inr (false, ()))))
    (he : f ((s.size : Int), ()) = some (.inr (.inl ()))) (g : Unit → Option (Bool × Unit)) (hg : g () = some (decide (1 ≤ (s.size : Int) ∧ (s.size : Int) ≤ 8), ())) : bindS (loopO f (0, ())) g = some (idB s, ()) := by
  obtain ⟨i, h1, h2, h3, h4⟩ := loopO_find f (fun i => ((i : Int), ())) s.size (fun i => if i < s.size then .inr (false, ()) else .inl ()) (idCh s) (fun i hi => by
    simp only [if_pos hi]; exact hs i hi) (by simp only [Nat.lt_irrefl, if_false]; exact he)
  have h4' : loopO f (0, ()) = some (if i < s.size then .inr (false, ()) else .inl ()) := h4
  rw [h4']
  unfold idB
  by_cases hi : i < s.size
  · rw [if_pos hi]
    have : (List.range s.size).all (idCh s) = false := by
      rw [List.all_eq_false]
      exact ⟨i, List.mem_range.2 hi, by simp [h3 hi]⟩
    simp [bindS, this]
  · rw [if_neg hi]
    have : (List.range s.size).all (idCh s) = true := by
      rw [List.all_eq_true]
      intro j hj
      exact h2 j (by have := List.mem_range.1 hj; omega)
    simp only [bindS, this, hg, Bool.true_and]
theorem l11Id_eq (s : ByteArray) (h : s.size ≤ maxLen) : P_s_l11Id s = some (idB s, ()) := by
  simp only [P_s_l11Id, B_s_l11Id]
  exact id_of (l11Id_step s h) (by simp [L_s_l11Id_0]) _ (by simp only [l1In_eq, bindO])
theorem idOk_eq (s : ByteArray) (h : s.size ≤ maxLen) : P_i_idOk s = some (idB s, ()) := by
  simp only [P_i_idOk, B_i_idOk]
  exact id_of (idOk_step s h) (by simp [L_i_idOk_0]) _ (by simp only [inRange_eq, bindO])

theorem eqO_self {R : Type} (a : Option R) : eqO a a = a := by
  unfold eqO
  rw [if_pos rfl]
theorem clone_byte_eq (a : List Int) (h : a.length ≤ 140737488355328) : P_slices_Clone_byte_byte a = some (a, ()) := by
  simp only [P_slices_Clone_byte_byte, B_slices_Clone_byte_byte]
  have e : (bif decide (([] : List Int).length + a.length ≤ 9223372036854775807) then bif decide ((([] : List Int).length + a.length) * 1 ≤ 140737488355328) then some (([] ++ a), ()) else none else none) = some (a, ()) := by
    rw [dec_true (by simp; omega), dec_true (by simp; omega)]
    simp
  rw [e]
  cases a with
  | nil => simp [eqO_self]
  | cons x xs => simp

def bigAt (n : Int) (k j : Nat) : Int := IntKind.u8.wrap (n.fdiv (2 ^ (8 * (k - 1 - j))))
def big (n : Int) (k : Nat) : List Int := (List.range k).map (bigAt n k)
theorem big_len (n : Int) (k : Nat) : (big n k).length = k := by simp [big]
theorem wu64 {n : Int} (h0 : 0 ≤ n) (h1 : n < 18446744073709551616) : IntKind.u64.wrap n = n := by
  simp only [IntKind.wrap, IntKind.bits, IntKind.signed]
  simp
  omega
theorem putLoop (v : Int) (b : List Int) (k : Nat) (hk : k ≤ 8) (hb : b.length + 8 ≤ 140737488355328) : loopO (L_s_PutBig_0 (v, ())) ((k : Int) - 1, b, ()) = some (b ++ big v k, ()) := by
  have key := loopO_count (L_s_PutBig_0 (v, ())) (fun j => ((k : Int) - 1 - (j : Int), b ++ (List.range j).map (bigAt v k), ())) k (b ++ big v k, ()) (fun j hj => ?_) ?_
  · simpa using key
  · have h1 : (k : Int) - 1 - (j : Int) ≥ 0 := by omega
    have e1 : (k : Int) - 1 - (j : Int) = ((k - 1 - j : Nat) : Int) := by omega
    have hs : IntKind.u64.wrap (IntKind.i64.wrap (8 * ((k : Int) - 1 - (j : Int)))) = ((8 * (k - 1 - j) : Nat) : Int) := by
      rw [w64 (by omega) (by omega), wu64 (by omega) (by omega)]
      omega
    have hm : min (8 * (k - 1 - j)) IntKind.i64.bits = 8 * (k - 1 - j) := Nat.min_eq_left (by simp only [IntKind.bits]; omega)
    simp only [L_s_PutBig_0, dec_true h1, cond_true, hs, Int.toNat_natCast, hm]
    rw [dec_false (by omega)]
    simp only [cond_false]
    have hl : (b ++ (List.range j).map (bigAt v k)).length = b.length + j := by simp
    rw [dec_true (by rw [hl]; simp; omega), dec_true (by rw [hl]; simp; omega)]
    simp only [cond_true]
    rw [w64 (by omega) (by omega), List.range_succ, List.map_append, List.append_assoc]
    have e2 : (k : Int) - 1 - (j : Int) - 1 = (k : Int) - 1 - ((j + 1 : Nat) : Int) := by omega
    rw [e2]
    rfl
  · have h1 : ¬ ((k : Int) - 1 - (k : Int) ≥ 0) := by omega
    simp only [L_s_PutBig_0, dec_false h1, cond_false]
    rfl
def clamp (n : Int) : Int := if n < 0 then 0 else n
theorem s_PutBig_eq (b : List Int) (n : Int) (k : Nat) (h1 : 1 ≤ k) (hk : k ≤ 8) (hb : b.length + 8 ≤ 140737488355328) : P_s_PutBig b n (k : Int) = some (b ++ big (clamp n) k, ()) := by
  simp only [P_s_PutBig, B_s_PutBig]
  rw [dec_true (by simp; omega), dec_true (by simp; omega)]
  have e : (bif decide (n < 0) then some ((0 : Int), ()) else some (n, ())) = some (clamp n, ()) := by
    unfold clamp
    by_cases h : n < 0 <;> simp [h]
  simp only [cond_true, e, bindO, l1In_eq]
  rw [dec_true (by omega)]
  simp only [Bool.not_true, cond_false, List.nil_append]
  rw [w64 (by omega) (by omega)]
  exact putLoop _ b k hk hb
theorem i_putBig_eq (b : List Int) (n : Int) (k : Nat) (hk : k ≤ 8) (hb : b.length + 8 ≤ 140737488355328) : P_i_putBig b n (k : Int) = some (b ++ big (clamp n) k, ()) := by
  simp only [P_i_putBig, B_i_putBig]
  have e : L_i_putBig_0 n = L_s_PutBig_0 (clamp n, ()) := by
    funext l
    have : (bif decide (0 > n) then (0 : Int) else n) = clamp n := by
      unfold clamp
      by_cases h : n < 0 <;> simp [h]
    simp only [L_i_putBig_0, L_s_PutBig_0, this]
  rw [e, w64 (by omega) (by omega)]
  exact putLoop _ b k hk hb

theorem wI64 {n : Nat} (h : n < 9223372036854775808) : IntKind.i64.wrap (n : Int) = (n : Int) := w64 (by omega) (by omega)
theorem wU32 {n : Nat} (h : n < 4294967296) : IntKind.u32.wrap (n : Int) = (n : Int) := by
  simp only [IntKind.wrap, IntKind.bits, IntKind.signed]
  simp
  omega
theorem bits_nat {w x : Nat} (h : x < 2 ^ w) : (BitVec.ofInt w (x : Int)).toNat = x := by
  rw [BitVec.ofInt_natCast, BitVec.toNat_ofNat]
  exact Nat.mod_eq_of_lt h
theorem bXor_i64 {x y : Nat} (hx : x < 4294967296) (hy : y < 4294967296) : bXor .i64 (x : Int) (y : Int) = ((x ^^^ y : Nat) : Int) := by
  have h : x ^^^ y < 2 ^ 32 := Nat.xor_lt_two_pow (by omega) (by omega)
  unfold bXor
  rw [BitVec.toNat_xor, bits_nat (by simp only [IntKind.bits]; omega), bits_nat (by simp only [IntKind.bits]; omega)]
  exact wI64 (by omega)
theorem bXor_u32 {x y : Nat} (hx : x < 4294967296) (hy : y < 4294967296) : bXor .u32 (x : Int) (y : Int) = ((x ^^^ y : Nat) : Int) := by
  have h : x ^^^ y < 2 ^ 32 := Nat.xor_lt_two_pow (by omega) (by omega)
  unfold bXor
  rw [BitVec.toNat_xor, bits_nat (by simp only [IntKind.bits]; omega), bits_nat (by simp only [IntKind.bits]; omega)]
  exact wU32 (by omega)
theorem bAnd_i64 {x y : Nat} (hx : x < 4294967296) (hy : y < 4294967296) : bAnd .i64 (x : Int) (y : Int) = ((x &&& y : Nat) : Int) := by
  have h : x &&& y < 2 ^ 32 := Nat.and_lt_two_pow _ (by omega)
  unfold bAnd
  rw [BitVec.toNat_and, bits_nat (by simp only [IntKind.bits]; omega), bits_nat (by simp only [IntKind.bits]; omega)]
  exact wI64 (by omega)
theorem bAnd_u32 {x y : Nat} (hx : x < 4294967296) (hy : y < 4294967296) : bAnd .u32 (x : Int) (y : Int) = ((x &&& y : Nat) : Int) := by
  have h : x &&& y < 2 ^ 32 := Nat.and_lt_two_pow _ (by omega)
  unfold bAnd
  rw [BitVec.toNat_and, bits_nat (by simp only [IntKind.bits]; omega), bits_nat (by simp only [IntKind.bits]; omega)]
  exact wU32 (by omega)
def crcStep (c : Nat) : Nat := if c &&& 1 = 1 then (c / 2) ^^^ 2197175160 else c / 2
def crcN (c : Nat) : Nat → Nat
  | 0 => c
  | i + 1 => crcStep (crcN c i)
theorem crcStep_lt {c : Nat} (h : c < 4294967296) : crcStep c < 4294967296 := by
  unfold crcStep
  split
  · have : (c / 2) ^^^ 2197175160 < 2 ^ 32 := Nat.xor_lt_two_pow (by omega) (by omega)
    omega
  · omega
theorem crcN_lt {c : Nat} (h : c < 4294967296) : ∀ i, crcN c i < 4294967296
  | 0 => h
  | i + 1 => crcStep_lt (crcN_lt h i)
theorem half (c : Nat) : ((c : Int)).fdiv 2 = ((c / 2 : Nat) : Int) := by
  rw [Int.fdiv_eq_ediv_of_nonneg _ (by omega)]
  omega
def crcL (a : List Int) : Nat := a.foldl (fun c x => crcN (c ^^^ x.toNat) 8) 4294967295
theorem crcF_lt (a : List Int) (ha : Byt a) : ∀ c, c < 4294967296 → a.foldl (fun c x => crcN (c ^^^ x.toNat) 8) c < 4294967296 := by
  induction a with
  | nil => intro c h; exact h
  | cons x a ih =>
    intro c h
    have hx := ha x (by simp)
    refine ih (fun y hy => ha y (by simp [hy])) _ (crcN_lt ?_ 8)
    have : c ^^^ x.toNat < 2 ^ 32 := Nat.xor_lt_two_pow (by omega) (by omega)
    omega
theorem byt_take {a : List Int} (h : Byt a) (i : Nat) : Byt (a.take i) := fun x hx => h x (List.mem_of_mem_take hx)
theorem crcL_lt {a : List Int} (h : Byt a) : crcL a < 4294967296 := crcF_lt a h _ (by omega)
theorem crcL_take {a : List Int} {i : Nat} (hi : i < a.length) : crcL (a.take (i + 1)) = crcN (crcL (a.take i) ^^^ a[i].toNat) 8 := by
  unfold crcL
  rw [List.take_succ_eq_append_getElem hi, List.foldl_append]
  rfl
theorem s_inner (l0 : Int × Int × Unit) (c : Nat) (h : c < 4294967296) : loopO (L_s_Crc_0 l0) ((c : Int), 0, ()) = some (.inl ((crcN c 8 : Int), IntKind.i64.wrap (l0.2.1 + 1), ())) := by
  refine loopO_count (L_s_Crc_0 l0) (fun i => ((crcN c i : Int), (i : Int), ())) 8 _ (fun i hi => ?_) ?_
  · have hl := crcN_lt h i
    have h1 : (i : Int) < 8 := by omega
    simp only [L_s_Crc_0, dec_true h1, cond_true, half]
    rw [show (1 : Int) = ((1 : Nat) : Int) from rfl, bAnd_i64 hl (by omega), show (2197175160 : Int) = ((2197175160 : Nat) : Int) from rfl, bXor_i64 (by omega) (by omega)]
    rw [show ((i : Int) + ((1 : Nat) : Int)) = ((i + 1 : Nat) : Int) by omega, wI64 (by omega)]
    simp only [crcN, crcStep]
    by_cases hb : crcN c i &&& 1 = 1
    · rw [dec_true (by rw [hb]), if_pos hb]; rfl
    · rw [dec_false (by omega), if_neg hb]; rfl
  · rfl
theorem s_Crc_eq (a : List Int) (ha : Byt a) (h : a.length ≤ maxLen) : P_s_Crc a = some (((crcL a ^^^ 4294967295 : Nat) : Int), ()) := by
  simp only [P_s_Crc, B_s_Crc]
  have key := loopO_count (L_s_Crc_1 a) (fun i => ((crcL (a.take i) : Int), (i : Int), ())) a.length ((crcL a : Int), ()) (fun i hi => ?_) ?_
  · have e : loopO (L_s_Crc_1 a) (4294967295, 0, ()) = some ((crcL a : Int), ()) := key
    rw [e]
    simp only [bindO]
    rw [show (4294967295 : Int) = ((4294967295 : Nat) : Int) from rfl, bXor_i64 (crcL_lt ha) (by omega)]
  · have h1 : ((i : Int) < (a.length : Int)) := by omega
    have h2 : (0 : Int) ≤ (i : Int) := by omega
    have hx := ha a[i] (List.getElem_mem hi)
    have hc := crcL_lt (byt_take ha i)
    simp only [L_s_Crc_1, dec_true h1, dec_true h2, cond_true, rd_int hi]
    have hxor : crcL (a.take i) ^^^ a[i].toNat < 2 ^ 32 := Nat.xor_lt_two_pow (by omega) (by omega)
    rw [w64 (by omega) (by omega), show a[i] = ((a[i].toNat : Nat) : Int) by omega, bXor_i64 hc (by omega)]
    rw [s_inner _ _ (by omega)]
    simp only
    rw [show ((i : Int) + 1) = ((i + 1 : Nat) : Int) by omega, wI64 (by simp only [maxLen] at h; omega), crcL_take hi]
  · simp [L_s_Crc_1]
theorem i_inner (l0 : Int × Int × Unit) (c : Nat) (h : c < 4294967296) : loopO (L_i_Crc_0 l0) ((c : Int), 0, ()) = some (.inl ((crcN c 8 : Int), IntKind.i64.wrap (l0.2.1 + 1), ())) := by
  refine loopO_count (L_i_Crc_0 l0) (fun i => ((crcN c i : Int), (i : Int), ())) 8 _ (fun i hi => ?_) ?_
  · have hl := crcN_lt h i
    have h1 : (i : Int) < 8 := by omega
    simp only [L_i_Crc_0, dec_true h1, cond_true, half]
    rw [show (1 : Int) = ((1 : Nat) : Int) from rfl, bAnd_u32 hl (by omega), show (2197175160 : Int) = ((2197175160 : Nat) : Int) from rfl, bXor_u32 (by omega) (by omega)]
    rw [show ((i : Int) + ((1 : Nat) : Int)) = ((i + 1 : Nat) : Int) by omega, wI64 (by omega)]
    simp only [crcN, crcStep]
    by_cases hb : crcN c i &&& 1 = 1
    · rw [dec_true (by rw [hb]), if_pos hb]; rfl
    · rw [dec_false (by omega), if_neg hb]; rfl
  · rfl
theorem i_Crc_eq (a : List Int) (ha : Byt a) (h : a.length ≤ maxLen) : P_i_Crc a = some (((crcL a ^^^ 4294967295 : Nat) : Int), ()) := by
  simp only [P_i_Crc, B_i_Crc]
  have key := loopO_count (L_i_Crc_1 a) (fun i => ((crcL (a.take i) : Int), (i : Int), ())) a.length ((crcL a : Int), ()) (fun i hi => ?_) ?_
  · have e : loopO (L_i_Crc_1 a) (4294967295, 0, ()) = some ((crcL a : Int), ()) := key
    rw [e]
    simp only [bindO]
    have hm : IntKind.u32.max = ((4294967295 : Nat) : Int) := rfl
    have hxor : crcL a ^^^ 4294967295 < 2 ^ 32 := Nat.xor_lt_two_pow (by have := crcL_lt ha; omega) (by omega)
    rw [hm, bXor_u32 (by omega) (crcL_lt ha), Nat.xor_comm, wI64 (by omega)]
  · have h1 : ((i : Int) < (a.length : Int)) := by omega
    have h2 : (0 : Int) ≤ (i : Int) := by omega
    have hx := ha a[i] (List.getElem_mem hi)
    have hc := crcL_lt (byt_take ha i)
    simp only [L_i_Crc_1, dec_true h1, dec_true h2, cond_true, rd_int hi]
    have hxor : crcL (a.take i) ^^^ a[i].toNat < 2 ^ 32 := Nat.xor_lt_two_pow (by omega) (by omega)
    rw [show a[i] = ((a[i].toNat : Nat) : Int) by omega, wU32 (by omega), bXor_u32 hc (by omega)]
    rw [i_inner _ _ (by omega)]
    simp only
    rw [show ((i : Int) + 1) = ((i + 1 : Nat) : Int) by omega, wI64 (by simp only [maxLen] at h; omega), crcL_take hi]
  · simp [L_i_Crc_1]


abbrev Resp := Int × Int
def respOkB (r : Resp) : Bool := decide (100 ≤ r.1 ∧ r.1 ≤ 599) && decide (-1 ≤ r.2 ∧ r.2 ≤ 1000000000)
theorem s_RespOk_eq (r : Resp) : P_s_RespOk r = some (respOkB r, ()) := by
  simp only [P_s_RespOk, B_s_RespOk, l1In_eq, bindO, respOkB]
  cases decide (100 ≤ r.1 ∧ r.1 ≤ 599) <;> simp
theorem i_RespOk_eq (r : Resp) : P_i_RespOk r = some (respOkB r, ()) := by
  simp only [P_i_RespOk, B_i_RespOk, inRange_eq, bindO, respOkB]
  cases decide (100 ≤ r.1 ∧ r.1 ≤ 599) <;> simp

/-- Where an upload of a name is. -/
def upIx (us : List TUp) (id : ByteArray) : Nat := firstN (fun i => !((rd kUp us (i : Int)).1.toList == id.toList)) 0 us.length
theorem l14At_eq (us : List TUp) (id : ByteArray) (h : us.length ≤ maxLen) : P_s_l14At us id = some (if upIx us id < us.length then (upIx us id : Int) else -1, ()) := by
  simp only [P_s_l14At, B_s_l14At]
  refine loopO_first (L_s_l14At_0 us id) (fun i => ((i : Int), ())) us.length (fun i => (if i < us.length then (i : Int) else -1, ())) (fun i => !((rd kUp us (i : Int)).1.toList == id.toList)) (fun i hi => ?_) ?_
  · have h1 : ((i : Int) < (us.length : Int)) := by omega
    have h2 : (0 : Int) ≤ (i : Int) := by omega
    simp only [L_s_l14At_0, dec_true h1, dec_true h2, cond_true, if_pos hi]
    rw [w64 (by omega) (by simp only [maxLen] at h; omega)]
    cases ((rd kUp us (i : Int)).1.toList == id.toList) <;> simp
  · simp [L_s_l14At_0]

theorem u8_inj {x y : Int} (hx : 0 ≤ x ∧ x < 256) (hy : 0 ≤ y ∧ y < 256) (h : UInt8.ofNat x.toNat = UInt8.ofNat y.toNat) : x = y := by
  have := congrArg UInt8.toNat h
  simp only [UInt8.toNat_ofNat'] at this
  omega


theorem bOr_i64 {x y : Nat} (hx : x < 9223372036854775808) (hy : y < 9223372036854775808) : bOr .i64 (x : Int) (y : Int) = ((x ||| y : Nat) : Int) := by
  have h : x ||| y < 2 ^ 63 := Nat.or_lt_two_pow (by omega) (by omega)
  unfold bOr
  rw [BitVec.toNat_or, bits_nat (by simp only [IntKind.bits]; omega), bits_nat (by simp only [IntKind.bits]; omega)]
  exact wI64 (by omega)
/-- The number that k bytes from a place on are. -/
def bigN (b : List Int) (at_ : Nat) : Nat → Nat
  | 0 => 0
  | j + 1 => (bigN b at_ j * 256) ||| (b.getD (at_ + j) 0).toNat
theorem byt_getD {b : List Int} (hb : Byt b) (i : Nat) : 0 ≤ b.getD i 0 ∧ b.getD i 0 < 256 := by
  by_cases h : i < b.length
  · simp only [List.getD, List.getElem?_eq_getElem h, Option.getD_some]
    exact hb _ (List.getElem_mem h)
  · simp only [List.getD, List.getElem?_eq_none (show b.length ≤ i by omega), Option.getD_none]
    omega
theorem bigN_lt {b : List Int} (hb : Byt b) (at_ : Nat) : ∀ j, bigN b at_ j < 2 ^ (8 * j)
  | 0 => by simp [bigN]
  | j + 1 => by
    have h1 := bigN_lt hb at_ j
    have h2 := byt_getD hb (at_ + j)
    have e : 2 ^ (8 * (j + 1)) = 2 ^ (8 * j) * 256 := by rw [show 8 * (j + 1) = 8 * j + 8 by omega, Nat.pow_add]
    refine Nat.or_lt_two_pow ?_ ?_
    · rw [e]; exact Nat.mul_lt_mul_of_pos_right h1 (by omega)
    · have : 1 ≤ 2 ^ (8 * j) := Nat.one_le_two_pow
      rw [e]; omega
theorem big_step {b : List Int} (hb : Byt b) (at_ j : Nat) (hj : j < 7) (x : Int) (hx : x = b.getD (at_ + j) 0) : bOr .i64 (IntKind.i64.wrap (((bigN b at_ j : Nat) : Int) * 256)) (IntKind.i64.wrap x) = ((bigN b at_ (j + 1) : Nat) : Int) := by
  have h1 := bigN_lt hb at_ j
  have h2 := byt_getD hb (at_ + j)
  have h3 : 2 ^ (8 * j) ≤ 2 ^ 48 := Nat.pow_le_pow_right (by omega) (by omega)
  subst hx
  rw [show ((bigN b at_ j : Nat) : Int) * 256 = ((bigN b at_ j * 256 : Nat) : Int) by omega, wI64 (by omega), show b.getD (at_ + j) 0 = (((b.getD (at_ + j) 0).toNat : Nat) : Int) by omega, wI64 (by omega), bOr_i64 (by omega) (by omega)]
  simp only [bigN, Int.toNat_natCast]
def getBig (b : List Int) (a : Int) (k : Nat) : Int × Bool × Unit := if 0 ≤ a ∧ a ≤ (b.length : Int) - k then ((bigN b a.toNat k : Int), true, ()) else (0, false, ())
theorem s_GetBig_eq (b : List Int) (hb : Byt b) (h : b.length ≤ 1048576) (a : Int) (k : Nat) (hk : 1 ≤ k ∧ k ≤ 7) : P_s_GetBig b a (k : Int) = some (getBig b a k) := by
  simp only [P_s_GetBig, B_s_GetBig, l1In_eq, bindO, getBig]
  rw [dec_true (show (1 : Int) ≤ (k : Int) ∧ (k : Int) ≤ 7 by omega), w64 (by omega) (by omega)]
  simp only [Bool.not_true, cond_false]
  by_cases h1 : a < 0
  · rw [dec_true h1, if_neg (by omega)]; rfl
  rw [dec_false h1]
  by_cases h2 : a > (b.length : Int) - k
  · rw [dec_true h2, if_neg (by omega)]; rfl
  rw [dec_false h2, if_pos (by omega)]
  simp only [cond_false, bindS]
  have key := loopO_count (L_s_GetBig_0 (k : Int) a b) (fun j => ((bigN b a.toNat j : Int), (j : Int), ())) k ((bigN b a.toNat k : Int), ()) (fun j hj => ?_) ?_
  · have e : loopO (L_s_GetBig_0 (k : Int) a b) (0, 0, ()) = _ := key
    rw [e]
  · have g1 : (j : Int) < (k : Int) := by omega
    simp only [L_s_GetBig_0, dec_true g1, cond_true]
    rw [w64 (n := a + (j : Int)) (by omega) (by omega)]
    have g2 : 0 ≤ a + (j : Int) := by omega
    have g3 : a + (j : Int) < (b.length : Int) := by omega
    rw [dec_true g2, dec_true g3]
    simp only [cond_true]
    rw [big_step hb a.toNat j (by omega) _ (by
      rw [show a + (j : Int) = ((a.toNat + j : Nat) : Int) by omega, rd_int (by omega)]
      simp [List.getD, show a.toNat + j < b.length by omega]), show (j : Int) + 1 = ((j + 1 : Nat) : Int) by omega, wI64 (by omega)]
  · simp [L_s_GetBig_0]
theorem i_GetBig_eq (b : List Int) (hb : Byt b) (h : b.length ≤ 1048576) (a : Int) (k : Nat) (hk : 1 ≤ k ∧ k ≤ 7) : P_i_GetBig b a (k : Int) = some (getBig b a k) := by
  simp only [P_i_GetBig, B_i_GetBig, inRange_eq, bindO, getBig]
  rw [dec_true (show (1 : Int) ≤ (k : Int) ∧ (k : Int) ≤ 7 by omega), w64 (n := (b.length : Int) - (k : Int)) (by omega) (by omega)]
  simp only [Bool.not_true, cond_false]
  by_cases h1 : a < 0
  · rw [dec_true h1, if_neg (by omega)]; rfl
  rw [dec_false h1]
  by_cases h2 : a > (b.length : Int) - k
  · rw [dec_true h2, if_neg (by omega)]; rfl
  rw [dec_false h2, if_pos (by omega)]
  simp only [cond_false, bindS]
  rw [w64 (n := a + (k : Int)) (by omega) (by omega), dec_true (show 0 ≤ a by omega), dec_true (show a ≤ a + (k : Int) by omega), dec_true (show a + (k : Int) ≤ (b.length : Int) by omega)]
  simp only [cond_true]
  have hlen : ((b.take (a + (k : Int)).toNat).drop a.toNat).length = k := by simp; omega
  have key := loopO_count (L_i_GetBig_0 b a (k : Int)) (fun j => ((bigN b a.toNat j : Int), (j : Int), ())) k ((bigN b a.toNat k : Int), ()) (fun j hj => ?_) ?_
  · have e : loopO (L_i_GetBig_0 b a (k : Int)) (0, 0, ()) = _ := key
    rw [e]
  · have g1 : (j : Int) < (k : Int) := by omega
    have g2 : (0 : Int) ≤ (j : Int) := by omega
    simp only [L_i_GetBig_0]
    rw [w64 (n := a + (k : Int)) (by omega) (by omega)]
    simp only [hlen, dec_true g1, dec_true g2, cond_true]
    rw [big_step hb a.toNat j (by omega) _ (by
      rw [rd_int (by rw [hlen]; exact hj)]
      simp [List.getD, show a.toNat + j < b.length by omega]), show (j : Int) + 1 = ((j + 1 : Nat) : Int) by omega, wI64 (by omega)]
  · simp only [L_i_GetBig_0]
    rw [w64 (n := a + (k : Int)) (by omega) (by omega)]
    simp [hlen]

theorem strOf_size (xs : List Int) : (strOf xs).size = xs.length := strOfNums_size xs
theorem app_size (a b : ByteArray) : (a ++ b).size = a.size + b.size := ByteArray.size_append
theorem markText_ok (k : Int) (h : k < 4611686018427387904) : ∃ s, P_w_markText k = some (s, ()) := by
  simp only [P_w_markText, B_w_markText]
  by_cases h0 : k ≤ 0
  · rw [dec_true h0]; exact ⟨_, rfl⟩
  rw [dec_false h0]
  obtain ⟨z, e, hz⟩ := loopO_ind L_w_markText_0 (fun l => l.1.toNat) (fun l => 0 ≤ l.1 ∧ (l.2.1.size : Int) + l.1 ≤ k) (fun z => (z.1.size : Int) ≤ k) (fun l hl => by
    obtain ⟨n, out, u⟩ := l
    simp only at hl ⊢
    simp only [L_w_markText_0]
    by_cases hp : n > 0
    · refine .inl ⟨(n.tdiv 10, strOf [IntKind.u8.wrap (IntKind.i64.wrap (48 + n.tmod 10))] ++ out, ()), ?_, ?_, ?_⟩
      · rw [dec_true hp]
        simp only [cond_true]
        rw [dec_false (by rw [strOf_size]; simp [IntKind.max, IntKind.signed, IntKind.bits]; omega)]
        simp only [cond_false]
        rw [w64 (n := n.tdiv 10) (by rw [Int.tdiv_eq_ediv_of_nonneg (by omega)]; omega) (by rw [Int.tdiv_eq_ediv_of_nonneg (by omega)]; omega)]
      · simp only
        rw [app_size, strOf_size, Int.tdiv_eq_ediv_of_nonneg (by omega)]
        simp only [List.length_singleton]
        omega
      · simp only
        rw [Int.tdiv_eq_ediv_of_nonneg (by omega)]
        omega
    · rw [dec_false hp]
      exact .inr ⟨_, rfl, by simp only; omega⟩) (k, ⟨#[]⟩, ()) (by
      constructor
      · simp only; omega
      · show ((0 : Nat) : Int) + k ≤ k
        omega)
  rw [e]
  simp only [bindO, cond_false]
  have h1 : (⟨#[109]⟩ : ByteArray).size = 1 := rfl
  rw [dec_false (by rw [h1]; simp [IntKind.max, IntKind.signed, IntKind.bits]; omega)]
  exact ⟨_, rfl⟩
noncomputable def mt (k : Int) : ByteArray := match P_w_markText k with
  | some (s, _) => s
  | none => ⟨#[]⟩
theorem markText_eq (k : Int) (h : k < 4611686018427387904) : P_w_markText k = some (mt k, ()) := by
  obtain ⟨s, hs⟩ := markText_ok k h
  unfold mt
  rw [hs]
noncomputable def markedS (m : Int) (n : Nat) : List ByteArray := (List.range n).map fun j => mt (m + (j : Nat))
theorem markStringS_eq (a : List ByteArray) (m : Int) (h0 : 0 ≤ m) (h : m + a.length < 4611686018427387904) : P_w_markStringS a m = some (m + a.length, markedS m a.length, ()) := by
  simp only [P_w_markStringS, B_w_markStringS]
  have key := loopO_count (L_w_markStringS_0 P_w_markText) (fun i => (m + (i : Int), (i : Int), markedS m i ++ a.drop i, ())) a.length (m + a.length, markedS m a.length, ()) (fun i hi => ?_) ?_
  · simpa [markedS] using key
  · have h1 : ((i : Int) < (a.length : Int)) := by omega
    have h2 : (0 : Int) ≤ (i : Int) := by omega
    have hl : (markedS m i ++ a.drop i).length = a.length := by simp [markedS]; omega
    simp only [L_w_markStringS_0, hl, dec_true h1, dec_true h2, cond_true]
    rw [markText_eq _ (by omega), w64 (by omega) (by omega), w64 (by omega) (by omega), Int.toNat_natCast]
    simp only [bindO]
    have : (markedS m i ++ a.drop i).set i (mt (m + (i : Int))) = markedS m (i + 1) ++ a.drop (i + 1) := by
      rw [List.set_append_right _ _ (by simp [markedS])]
      rw [show (markedS m i).length = i by simp [markedS], Nat.sub_self, List.drop_eq_getElem_cons hi, List.set_cons_zero]
      simp [markedS, List.range_succ]
    rw [this]
    simp only [Int.natCast_add, Int.natCast_one, Int.add_assoc]
  · simp [L_w_markStringS_0, markedS]
theorem heldStringS_eq (n : Nat) (m : Int) (h0 : 0 ≤ m) (h : m + n < 4611686018427387904) : P_w_heldStringS (markedS m n) m = some (m + n, ()) := by
  simp only [P_w_heldStringS, B_w_heldStringS]
  have hl : (markedS m n).length = n := by simp [markedS]
  have key := loopO_count (L_w_heldStringS_0 P_w_markText (markedS m n)) (fun i => (m + (i : Int), (i : Int), ())) n (m + n, ()) (fun i hi => ?_) ?_
  · simpa [markedS] using key
  · have h1 : ((i : Int) < (n : Int)) := by omega
    have h2 : (0 : Int) ≤ (i : Int) := by omega
    simp only [L_w_heldStringS_0, hl, dec_true h1, dec_true h2, cond_true]
    have hr : rd .str (markedS m n) (i : Int) = mt (m + (i : Int)) := by
      rw [rd_str (by rw [hl]; exact hi)]
      simp [markedS]
    rw [hr, markText_eq _ (by omega), w64 (by omega) (by omega), w64 (by omega) (by omega)]
    simp only [bindO, beq_self_eq_true, Bool.not_true, cond_false, Int.natCast_add, Int.natCast_one, Int.add_assoc]
  · simp [L_w_heldStringS_0, hl]

theorem wrap_u8 (x : Int) : 0 ≤ IntKind.u8.wrap x ∧ IntKind.u8.wrap x < 256 := by
  simp only [IntKind.wrap, IntKind.bits, IntKind.signed]
  simp
  omega

def recOkB (r : TRec) : Bool :=
  decide (0 ≤ r.1 ∧ r.1 ≤ 10000) && decide (0 ≤ r.2.1 ∧ r.2.1 ≤ 199) && idB r.2.2.2.1 &&
  (if r.2.2.1 = 1 then decide (0 ≤ r.2.2.2.2.1 ∧ r.2.2.2.2.1 ≤ 1000000000) && decide ((List.length r.2.2.2.2.2 : Int) = 0)
   else if r.2.2.1 = 2 then decide (0 ≤ r.2.2.2.2.1 ∧ r.2.2.2.2.1 ≤ 1000000000) && decide (1 ≤ (List.length r.2.2.2.2.2 : Int) ∧ (List.length r.2.2.2.2.2 : Int) ≤ 24)
   else if r.2.2.1 = 3 ∨ r.2.2.1 = 4 then decide (r.2.2.2.2.1 = 0) && decide ((List.length r.2.2.2.2.2 : Int) = 0) else false)
theorem s_RecOk_eq (r : TRec) (h : r.2.2.2.1.size ≤ maxLen) : P_s_RecOk r = some (recOkB r, ()) := by
  simp only [P_s_RecOk, B_s_RecOk, l11Id_eq _ h, l1In_eq, bindO, recOkB]
  cases decide (0 ≤ r.1 ∧ r.1 ≤ 10000)
  · rfl
  cases decide (0 ≤ r.2.1 ∧ r.2.1 ≤ 199)
  · rfl
  cases idB r.2.2.2.1
  · rfl
  simp only [Bool.not_true, cond_false, bindS, Bool.true_and]
  by_cases h1 : r.2.2.1 = 1
  · rw [dec_true h1, if_pos h1]
    cases decide (0 ≤ r.2.2.2.2.1 ∧ r.2.2.2.2.1 ≤ 1000000000) <;> rfl
  rw [dec_false h1, if_neg h1]
  by_cases h2 : r.2.2.1 = 2
  · rw [dec_true h2, if_pos h2]
    cases decide (0 ≤ r.2.2.2.2.1 ∧ r.2.2.2.2.1 ≤ 1000000000) <;> rfl
  rw [dec_false h2, if_neg h2]
  by_cases h3 : r.2.2.1 = 3
  · rw [dec_true h3, if_pos (.inl h3)]
    cases decide (r.2.2.2.2.1 = 0) <;> rfl
  rw [dec_false h3]
  by_cases h4 : r.2.2.1 = 4
  · rw [dec_true h4, if_pos (.inr h4)]
    cases decide (r.2.2.2.2.1 = 0) <;> rfl
  rw [dec_false h4, if_neg (by omega)]
  rfl
theorem i_RecOk_eq (r : TRec) (h : r.2.2.2.1.size ≤ maxLen) : P_i_RecOk r = some (recOkB r, ()) := by
  simp only [P_i_RecOk, B_i_RecOk, P_i_isEpoch, B_i_isEpoch, idOk_eq _ h, inRange_eq, bindO, recOkB]
  cases decide (0 ≤ r.1 ∧ r.1 ≤ 10000)
  · rfl
  cases decide (0 ≤ r.2.1 ∧ r.2.1 ≤ 199)
  · rfl
  by_cases hk : 1 ≤ r.2.2.1 ∧ r.2.2.1 ≤ 4
  · rw [dec_true hk]
    cases idB r.2.2.2.1
    · rfl
    simp only [Bool.not_true, cond_false, bindS, Bool.true_and]
    by_cases h1 : r.2.2.1 = 1
    · rw [dec_true h1, if_pos h1]
      cases decide (0 ≤ r.2.2.2.2.1 ∧ r.2.2.2.2.1 ≤ 1000000000) <;> rfl
    rw [dec_false h1, if_neg h1]
    by_cases h2 : r.2.2.1 = 2
    · rw [dec_true h2, if_pos h2]
      cases decide (0 ≤ r.2.2.2.2.1 ∧ r.2.2.2.2.1 ≤ 1000000000) <;> rfl
    rw [dec_false h2, if_neg h2, if_pos (by omega)]
    cases decide (r.2.2.2.2.1 = 0) <;> rfl
  · rw [dec_false hk, if_neg (by omega), if_neg (by omega), if_neg (by omega)]
    cases idB r.2.2.2.1 <;> rfl
theorem recOk_bnd {r : TRec} (h : recOkB r = true) : 0 ≤ r.1 ∧ r.1 ≤ 10000 ∧ 1 ≤ r.2.2.1 ∧ r.2.2.1 ≤ 4 ∧ r.2.2.2.1.size ≤ 8 ∧ 0 ≤ r.2.2.2.2.1 ∧ r.2.2.2.2.1 ≤ 1000000000 ∧ List.length r.2.2.2.2.2 ≤ 24 := by
  simp only [recOkB, idB, Bool.and_eq_true, decide_eq_true_eq] at h
  obtain ⟨⟨⟨h1, h2⟩, h3, h4⟩, h5⟩ := h
  split at h5
  · simp only [Bool.and_eq_true, decide_eq_true_eq] at h5; omega
  · split at h5
    · simp only [Bool.and_eq_true, decide_eq_true_eq] at h5; omega
    · split at h5
      · simp only [Bool.and_eq_true, decide_eq_true_eq] at h5; omega
      · cases h5
theorem byt_app {a b : List Int} (ha : Byt a) (hb : Byt b) : Byt (a ++ b) := fun x hx => (List.mem_append.1 hx).elim (ha x) (hb x)
theorem byt_big (n : Int) (k : Nat) : Byt (big n k) := by
  intro x hx
  obtain ⟨j, _, rfl⟩ := List.mem_map.1 hx
  exact wrap_u8 _
theorem byt_bytesOf (s : ByteArray) : Byt (bytesOf s) := by
  intro x hx
  obtain ⟨b, _, rfl⟩ := List.mem_map.1 hx
  have := b.toNat_lt
  omega
theorem byt_nil : Byt [] := fun x hx => by cases hx
theorem byt_drop {a : List Int} (h : Byt a) (i : Nat) : Byt (a.drop i) := fun x hx => h x (List.mem_of_mem_drop hx)
/-- A record's bytes, ahead of its sum. -/
def recB (r : TRec) : List Int :=
  big (clamp r.1) 3 ++ big (clamp r.2.1) 2 ++ big (clamp r.2.2.1) 1 ++ big (clamp (r.2.2.2.1.size : Int)) 1 ++ bytesOf r.2.2.2.1 ++ big (clamp r.2.2.2.2.1) 4 ++ big (clamp (List.length r.2.2.2.2.2 : Int)) 1 ++ r.2.2.2.2.2
def crcI (b : List Int) : Int := ((crcL b ^^^ 4294967295 : Nat) : Int)
def putRec (r : TRec) : ByteArray := strOf (recB r ++ big (clamp (crcI (recB r))) 4)
theorem recB_len (r : TRec) : (recB r).length = 12 + r.2.2.2.1.size + List.length r.2.2.2.2.2 := by
  simp only [recB, List.length_append, big_len, bytesOf_length]
  omega
theorem recB_byt (r : TRec) (h : Byt r.2.2.2.2.2) : Byt (recB r) := by
  unfold recB
  repeat' first | apply byt_app | apply byt_big | apply byt_bytesOf | exact h
theorem s_l13Put_eq (r : TRec) (h1 : r.2.2.2.1.size ≤ 10000000) (h2 : List.length r.2.2.2.2.2 ≤ 10000000) (hb : Byt r.2.2.2.2.2) : P_s_l13Put r = some (putRec r, ()) := by
  have hlen := recB_len r
  simp only [P_s_l13Put, B_s_l13Put]
  rw [show (3 : Int) = ((3 : Nat) : Int) from rfl, s_PutBig_eq [] _ 3 (by omega) (by omega) (by simp)]
  simp only [bindO, List.nil_append]
  rw [show (2 : Int) = ((2 : Nat) : Int) from rfl, s_PutBig_eq _ _ 2 (by omega) (by omega) (by simp [big_len])]
  simp only
  rw [show (1 : Int) = ((1 : Nat) : Int) from rfl, s_PutBig_eq _ _ 1 (by omega) (by omega) (by simp [big_len])]
  simp only
  rw [s_PutBig_eq _ _ 1 (by omega) (by omega) (by simp [big_len])]
  simp only
  rw [dec_true (by simp [big_len]; omega)]
  simp only [cond_true]
  rw [show (4 : Int) = ((4 : Nat) : Int) from rfl, s_PutBig_eq _ _ 4 (by omega) (by omega) (by simp [big_len, bytesOf_length]; omega)]
  simp only
  rw [s_PutBig_eq _ _ 1 (by omega) (by omega) (by simp [big_len, bytesOf_length]; omega)]
  simp only
  rw [dec_true (by simp [big_len, bytesOf_length]; omega), dec_true (by simp [big_len, bytesOf_length]; omega)]
  simp only [cond_true]
  have e : big (clamp r.1) 3 ++ big (clamp r.2.1) 2 ++ big (clamp r.2.2.1) 1 ++ big (clamp (r.2.2.2.1.size : Int)) 1 ++ bytesOf r.2.2.2.1 ++ big (clamp r.2.2.2.2.1) 4 ++ big (clamp (List.length r.2.2.2.2.2 : Int)) 1 ++ r.2.2.2.2.2 = recB r := rfl
  rw [e, s_Crc_eq _ (recB_byt r hb) (by rw [hlen]; simp only [maxLen]; omega)]
  simp only
  rw [s_PutBig_eq _ _ 4 (by omega) (by omega) (by rw [hlen]; omega)]
  rfl
theorem big_one (n : Int) : big n 1 = [IntKind.u8.wrap n] := by
  simp [big, bigAt]
theorem clamp_nn {n : Int} (h : 0 ≤ n) : clamp n = n := by unfold clamp; rw [if_neg (by omega)]
theorem i_PutRec_eq (r : TRec) (h1 : r.2.2.2.1.size ≤ maxLen) (hb : Byt r.2.2.2.2.2) : P_i_PutRec r = some (if recOkB r then putRec r else ⟨#[]⟩, ()) := by
  simp only [P_i_PutRec, B_i_PutRec, i_RecOk_eq r h1]
  cases hr : recOkB r with
  | false => rfl
  | true =>
    have hbd := recOk_bnd hr
    have hlen := recB_len r
    simp only [bindO, Bool.not_true, cond_false]
    rw [show (3 : Int) = ((3 : Nat) : Int) from rfl, i_putBig_eq [] _ 3 (by omega) (by simp)]
    simp only [List.nil_append]
    rw [show (2 : Int) = ((2 : Nat) : Int) from rfl, i_putBig_eq _ _ 2 (by omega) (by simp [big_len])]
    simp only
    rw [dec_true (by simp [big_len]), dec_true (by simp [big_len])]
    simp only [cond_true]
    rw [dec_true (by simp [big_len]; omega)]
    simp only [cond_true]
    rw [show (4 : Int) = ((4 : Nat) : Int) from rfl, i_putBig_eq _ _ 4 (by omega) (by simp [big_len, bytesOf_length]; omega)]
    simp only
    rw [dec_true (by simp [big_len, bytesOf_length]; omega), dec_true (by simp [big_len, bytesOf_length]; omega)]
    simp only [cond_true]
    rw [dec_true (by simp [big_len, bytesOf_length]; omega), dec_true (by simp [big_len, bytesOf_length]; omega)]
    simp only [cond_true]
    have e : big (clamp r.1) 3 ++ big (clamp r.2.1) 2 ++ [IntKind.u8.wrap r.2.2.1, IntKind.u8.wrap (r.2.2.2.1.size : Int)] ++ bytesOf r.2.2.2.1 ++ big (clamp r.2.2.2.2.1) 4 ++ [IntKind.u8.wrap (List.length r.2.2.2.2.2 : Int)] ++ r.2.2.2.2.2 = recB r := by
      unfold recB
      rw [big_one, big_one, big_one, clamp_nn (n := r.2.2.1) (by omega), clamp_nn (n := (r.2.2.2.1.size : Int)) (by omega), clamp_nn (n := (List.length r.2.2.2.2.2 : Int)) (by omega)]
      simp [List.append_assoc]
    rw [e, i_Crc_eq _ (recB_byt r hb) (by rw [hlen]; simp only [maxLen]; omega)]
    simp only
    rw [i_putBig_eq _ _ 4 (by omega) (by rw [hlen]; omega)]
    rfl
def idLen (b : List Int) : Nat := bigN b 6 1
def datLen (b : List Int) : Nat := bigN b (11 + idLen b) 1
/-- The record that bytes tell, if they are long enough. -/
def recAt (b : List Int) : TRec := ((bigN b 0 3 : Int), (bigN b 3 2 : Int), (bigN b 5 1 : Int), strOf ((b.take (7 + idLen b)).drop 7), (bigN b (7 + idLen b) 4 : Int), (b.take (12 + idLen b + datLen b)).drop (12 + idLen b))
def noRec : TRec × Bool × Unit := ((0, 0, 0, ⟨#[]⟩, 0, []), false, ())
def recGood (s : ByteArray) : Bool := decide (12 + idLen (bytesOf s) + datLen (bytesOf s) ≤ s.size) && recOkB (recAt (bytesOf s)) && ((putRec (recAt (bytesOf s))).toList == s.toList)
def getRec (s : ByteArray) : TRec × Bool × Unit := if recGood s = true then (recAt (bytesOf s), true, ()) else noRec
theorem getBig_ok (b : List Int) (a k : Nat) (h : a + k ≤ b.length) : getBig b (a : Int) k = ((bigN b a k : Int), true, ()) := by
  unfold getBig
  rw [if_pos (by omega), Int.toNat_natCast]
theorem getBig_no (b : List Int) (a k : Nat) (h : ¬ a + k ≤ b.length) : getBig b (a : Int) k = (0, false, ()) := by
  unfold getBig
  rw [if_neg (by omega)]
theorem big1_lt {b : List Int} (hb : Byt b) (a : Nat) : bigN b a 1 < 256 := by
  have := bigN_lt hb a 1
  omega
theorem recAt_len (b : List Int) (h : 12 + idLen b + datLen b ≤ b.length) : (recAt b).2.2.2.1.size = idLen b ∧ List.length (recAt b).2.2.2.2.2 = datLen b := by
  simp only [recAt, strOf_size, List.length_drop, List.length_take]
  omega
theorem recAt_byt {b : List Int} (hb : Byt b) : Byt (recAt b).2.2.2.2.2 := byt_drop (byt_take hb _) _
theorem s_GetRec_eq (s : ByteArray) (hs : s.size ≤ 1048576) : P_s_GetRec s = some (getRec s) := by
  have hbl := bytesOf_length s
  have hb := byt_bytesOf s
  have hh : (bytesOf s).length ≤ 1048576 := by omega
  have hsz : s.size = (bytesOf s).length := hbl.symm
  simp only [getRec, recGood, hsz]
  have hlen : decide ((bytesOf s).length ≤ 9223372036854775807) = true := dec_true (by omega)
  simp only [P_s_GetRec, B_s_GetRec, hsz, hlen, cond_true]
  clear hlen hsz
  generalize bytesOf s = b at hb hh ⊢
  clear hbl
  have g0 : ∀ (a : Int) (k : Nat) (k' : Int), k' = (k : Int) → 1 ≤ k ∧ k ≤ 7 → P_s_GetBig b a k' = some (getBig b a k) := fun a k k' e hk => by rw [e]; exact s_GetBig_eq b hb hh a k hk
  have q0 := g0 0 3 3 rfl (by omega)
  have q3 := g0 3 2 2 rfl (by omega)
  have q5 := g0 5 1 1 rfl (by omega)
  have q6 := g0 6 1 1 rfl (by omega)
  simp only [q0, q3, q5, q6]
  by_cases c1 : 7 ≤ b.length
  · have e0 := getBig_ok b 0 3 (by omega)
    have e3 := getBig_ok b 3 2 (by omega)
    have e5 := getBig_ok b 5 1 (by omega)
    have e6 := getBig_ok b 6 1 (by omega)
    simp only [Int.cast_ofNat_Int] at e0 e3 e5 e6
    have hn := big1_lt hb 6
    have hN : (bigN b 6 1 : Int) = ((idLen b : Nat) : Int) := rfl
    have hn' : idLen b < 256 := hn
    simp only [e0, e3, e5, e6, bindO, Bool.not_true, cond_false, hN]
    rw [w64 (n := 7 + (idLen b : Int)) (by omega) (by omega), w64 (n := 11 + (idLen b : Int)) (by omega) (by omega), w64 (n := 12 + (idLen b : Int)) (by omega) (by omega)]
    by_cases c2 : 7 + idLen b ≤ b.length
    · rw [dec_false (show ¬ 7 + (idLen b : Int) > (b.length : Int) by omega)]
      simp only [cond_false, bindS]
      rw [dec_true (show 7 ≤ 7 + (idLen b : Int) by omega), dec_true (show 7 + (idLen b : Int) ≤ (b.length : Int) by omega)]
      simp only [cond_true]
      have q7 := g0 (7 + (idLen b : Int)) 4 4 rfl (by omega)
      have q11 := g0 (11 + (idLen b : Int)) 1 1 rfl (by omega)
      simp only [q7, q11]
      by_cases c3 : 12 + idLen b ≤ b.length
      · have e7 := getBig_ok b (7 + idLen b) 4 (by omega)
        have e11 := getBig_ok b (11 + idLen b) 1 (by omega)
        simp only [Int.natCast_add, Int.cast_ofNat_Int] at e7 e11
        have hm : datLen b < 256 := big1_lt hb _
        have hM : (bigN b (11 + idLen b) 1 : Int) = ((datLen b : Nat) : Int) := rfl
        simp only [e7, e11, Bool.not_true, cond_false, hM]
        rw [w64 (n := 12 + (idLen b : Int) + (datLen b : Int)) (by omega) (by omega)]
        by_cases c4 : 12 + idLen b + datLen b ≤ b.length
        · rw [dec_false (show ¬ 12 + (idLen b : Int) + (datLen b : Int) > (b.length : Int) by omega), dec_true (show 0 ≤ 12 + (idLen b : Int) by omega), dec_true (show 12 + (idLen b : Int) ≤ 12 + (idLen b : Int) + (datLen b : Int) by omega), dec_true (show 12 + (idLen b : Int) + (datLen b : Int) ≤ (b.length : Int) by omega)]
          simp only [cond_true, cond_false]
          rw [dec_true (by simp; omega), dec_true (by simp; omega)]
          have t1 : (7 + (idLen b : Int)).toNat = 7 + idLen b := by omega
          have t2 : (12 + (idLen b : Int) + (datLen b : Int)).toNat = 12 + idLen b + datLen b := by omega
          have t3 : (12 + (idLen b : Int)).toNat = 12 + idLen b := by omega
          simp only [cond_true, List.nil_append, t1, t2, t3]
          have hr : (((bigN b 0 3 : Nat) : Int), ((bigN b 3 2 : Nat) : Int), ((bigN b 5 1 : Nat) : Int), strOf ((b.take (7 + idLen b)).drop 7), ((bigN b (7 + idLen b) 4 : Nat) : Int), (b.take (12 + idLen b + datLen b)).drop (12 + idLen b)) = recAt b := rfl
          obtain ⟨l1, l2⟩ := recAt_len b c4
          rw [hr, s_RecOk_eq _ (by rw [l1]; simp only [maxLen]; omega), s_l13Put_eq _ (by rw [l1]; omega) (by rw [l2]; omega) (recAt_byt hb)]
          rw [dec_true c4]
          simp only [Bool.true_and]
          cases recOkB (recAt b)
          · rfl
          · cases hp : ((putRec (recAt b)).toList == s.toList)
            · rfl
            · rfl
        · rw [dec_true (show 12 + (idLen b : Int) + (datLen b : Int) > (b.length : Int) by omega), dec_false c4]
          rfl
      · have e11 := getBig_no b (11 + idLen b) 1 (by omega)
        simp only [Int.natCast_add, Int.cast_ofNat_Int] at e11
        simp only [e11]
        rw [dec_false (show ¬ 12 + idLen b + datLen b ≤ b.length by omega)]
        cases (getBig b (7 + (idLen b : Int)) 4).2.1 <;> rfl
    · rw [dec_true (show 7 + (idLen b : Int) > (b.length : Int) by omega), dec_false (show ¬ 12 + idLen b + datLen b ≤ b.length by omega)]
      rfl
  · have e6 := getBig_no b 6 1 (by omega)
    simp only [Int.cast_ofNat_Int] at e6
    rw [dec_false (show ¬ 12 + idLen b + datLen b ≤ b.length by omega)]
    simp only [e6, bindO]
    cases (getBig b 0 3).2.1 <;> cases (getBig b 3 2).2.1 <;> cases (getBig b 5 1).2.1 <;> rfl
theorem num_good {b : List Int} (hb : Byt b) (hh : b.length ≤ 1048576) (a k : Nat) (k' : Int) (e : k' = (k : Int)) (hk : 1 ≤ k ∧ k ≤ 7) (h : a + k ≤ b.length) : P_i_byteReader_number (b, (a : Int), false) k' = some ((bigN b a k : Int), (b, ((a + k : Nat) : Int), false), ()) := by
  subst e
  simp only [P_i_byteReader_number, B_i_byteReader_number, i_GetBig_eq b hb hh _ k hk, getBig_ok b a k h, bindO, bindS, Bool.not_true, cond_false]
  rw [w64 (by omega) (by omega)]
  rfl
theorem num_short {b : List Int} (hb : Byt b) (hh : b.length ≤ 1048576) (a k : Nat) (k' : Int) (e : k' = (k : Int)) (hk : 1 ≤ k ∧ k ≤ 7) (h : ¬ a + k ≤ b.length) : P_i_byteReader_number (b, (a : Int), false) k' = some (0, (b, (a : Int), true), ()) := by
  subst e
  simp only [P_i_byteReader_number, B_i_byteReader_number, i_GetBig_eq b hb hh _ k hk, getBig_no b a k h, bindO, bindS, Bool.not_false, cond_false, cond_true]
theorem num_bad {b : List Int} (hb : Byt b) (hh : b.length ≤ 1048576) (a : Int) (k : Nat) (k' : Int) (e : k' = (k : Int)) (hk : 1 ≤ k ∧ k ≤ 7) : P_i_byteReader_number (b, a, true) k' = some (0, (b, a, true), ()) := by
  subst e
  simp only [P_i_byteReader_number, B_i_byteReader_number, i_GetBig_eq b hb hh _ k hk, bindO, bindS, cond_true]
theorem take_bad (b : List Int) (a n : Int) : P_i_byteReader_take (b, a, true) n = some ([], (b, a, true), ()) := by
  simp only [P_i_byteReader_take, B_i_byteReader_take, cond_true, bindS]
theorem take_good {b : List Int} (hh : b.length ≤ 1048576) (a n : Nat) (h : a + n ≤ b.length) : P_i_byteReader_take (b, (a : Int), false) (n : Int) = some ((b.take (a + n)).drop a, (b, ((a + n : Nat) : Int), false), ()) := by
  simp only [P_i_byteReader_take, B_i_byteReader_take, cond_false]
  rw [w64 (n := (b.length : Int) - (a : Int)) (by omega) (by omega), dec_false (by omega), w64 (n := (a : Int) + (n : Int)) (by omega) (by omega), w64 (n := (a : Int) + (n : Int) - (n : Int)) (by omega) (by omega)]
  simp only [cond_false, bindS]
  rw [dec_true (by omega), dec_true (by omega), dec_true (by omega)]
  simp only [cond_true]
  rw [clone_byte_eq _ (by simp; omega), show ((a : Int) + (n : Int)).toNat = a + n by omega, show ((a : Int) + (n : Int) - (n : Int)).toNat = a by omega]
  rfl
theorem take_short {b : List Int} (hh : b.length ≤ 1048576) (a n : Nat) (ha : a ≤ b.length) (h : ¬ a + n ≤ b.length) : P_i_byteReader_take (b, (a : Int), false) (n : Int) = some ([], (b, (a : Int), true), ()) := by
  simp only [P_i_byteReader_take, B_i_byteReader_take, cond_false]
  rw [w64 (n := (b.length : Int) - (a : Int)) (by omega) (by omega), dec_true (by omega)]
  rfl
theorem i_GetRec_eq (s : ByteArray) (hs : s.size ≤ 1048576) : P_i_GetRec s = some (getRec s) := by
  have hbl := bytesOf_length s
  have hb := byt_bytesOf s
  have hh : (bytesOf s).length ≤ 1048576 := by omega
  have hsz : s.size = (bytesOf s).length := hbl.symm
  simp only [getRec, recGood, hsz]
  have hlen : decide ((bytesOf s).length ≤ 9223372036854775807) = true := dec_true (by omega)
  simp only [P_i_GetRec, B_i_GetRec, hsz, hlen, cond_true]
  clear hlen hsz
  generalize bytesOf s = b at hb hh ⊢
  clear hbl
  have nb : ∀ (a : Int) (k : Nat) (k' : Int), k' = (k : Int) → 1 ≤ k ∧ k ≤ 7 → P_i_byteReader_number (b, a, true) k' = some (0, (b, a, true), ()) := fun a k k' e hk => num_bad hb hh a k k' e hk
  have nb1 : ∀ a : Int, P_i_byteReader_number (b, a, true) 1 = some (0, (b, a, true), ()) := fun a => nb a 1 1 rfl (by omega)
  have nb2 : ∀ a : Int, P_i_byteReader_number (b, a, true) 2 = some (0, (b, a, true), ()) := fun a => nb a 2 2 rfl (by omega)
  have nb4 : ∀ a : Int, P_i_byteReader_number (b, a, true) 4 = some (0, (b, a, true), ()) := fun a => nb a 4 4 rfl (by omega)
  have tb := take_bad b
  have z0 : ((0 : Int), false) = (((0 : Nat) : Int), false) := rfl
  rw [z0]
  by_cases c4 : 12 + idLen b + datLen b ≤ b.length
  · have hn' : idLen b < 256 := big1_lt hb _
    have hm' : datLen b < 256 := big1_lt hb _
    have hN : (bigN b 6 1 : Int) = ((idLen b : Nat) : Int) := rfl
    have hM : (bigN b (11 + idLen b) 1 : Int) = ((datLen b : Nat) : Int) := rfl
    rw [num_good hb hh 0 3 3 rfl (by omega) (by omega)]
    simp only [bindO]
    rw [num_good hb hh (0 + 3) 2 2 rfl (by omega) (by omega)]
    simp only
    rw [num_good hb hh (0 + 3 + 2) 1 1 rfl (by omega) (by omega)]
    simp only
    rw [num_good hb hh (0 + 3 + 2 + 1) 1 1 rfl (by omega) (by omega)]
    simp only [Nat.zero_add, Nat.reduceAdd, hN]
    rw [take_good hh 7 (idLen b) (by omega)]
    simp only
    rw [num_good hb hh (7 + idLen b) 4 4 rfl (by omega) (by omega)]
    simp only
    rw [num_good hb hh (7 + idLen b + 4) 1 1 rfl (by omega) (by omega)]
    simp only
    rw [show 7 + idLen b + 4 = 11 + idLen b by omega, hM, show 11 + idLen b + 1 = 12 + idLen b by omega, take_good hh (12 + idLen b) (datLen b) (by omega)]
    simp only [cond_false]
    have hr : (((bigN b 0 3 : Nat) : Int), ((bigN b 3 2 : Nat) : Int), ((bigN b 5 1 : Nat) : Int), strOf ((b.take (7 + idLen b)).drop 7), ((bigN b (7 + idLen b) 4 : Nat) : Int), (b.take (12 + idLen b + datLen b)).drop (12 + idLen b)) = recAt b := rfl
    obtain ⟨l1, l2⟩ := recAt_len b c4
    rw [hr, i_RecOk_eq _ (by rw [l1]; simp only [maxLen]; omega), i_PutRec_eq _ (by rw [l1]; simp only [maxLen]; omega) (recAt_byt hb)]
    rw [dec_true c4]
    simp only [Bool.true_and]
    cases recOkB (recAt b)
    · rfl
    · cases hp : ((putRec (recAt b)).toList == s.toList)
      · simp [hp]; rfl
      · simp [hp]
  · rw [dec_false c4]
    have fin : (if (false && recOkB (recAt b) && ((putRec (recAt b)).toList == s.toList)) = true then (recAt b, true, ()) else noRec) = noRec := by simp
    rw [fin]
    rcases Nat.lt_or_ge b.length (0 + 3) with d3 | d3
    · rw [num_short hb hh 0 3 3 rfl (by omega) (by omega)]
      simp only [bindO, nb1, nb2, nb4, tb]
      rfl
    rw [num_good hb hh 0 3 3 rfl (by omega) d3]
    simp only [bindO]
    rcases Nat.lt_or_ge b.length (0 + 3 + 2) with d5 | d5
    · rw [num_short hb hh (0 + 3) 2 2 rfl (by omega) (by omega)]
      simp only [nb1, nb2, nb4, tb]
      rfl
    rw [num_good hb hh (0 + 3) 2 2 rfl (by omega) d5]
    simp only
    rcases Nat.lt_or_ge b.length (0 + 3 + 2 + 1) with d6 | d6
    · rw [num_short hb hh (0 + 3 + 2) 1 1 rfl (by omega) (by omega)]
      simp only [nb1, nb2, nb4, tb]
      rfl
    rw [num_good hb hh (0 + 3 + 2) 1 1 rfl (by omega) d6]
    simp only
    rcases Nat.lt_or_ge b.length (0 + 3 + 2 + 1 + 1) with d7 | d7
    · rw [num_short hb hh (0 + 3 + 2 + 1) 1 1 rfl (by omega) (by omega)]
      simp only [nb1, nb2, nb4, tb]
      rfl
    rw [num_good hb hh (0 + 3 + 2 + 1) 1 1 rfl (by omega) d7]
    have hN : (bigN b 6 1 : Int) = ((idLen b : Nat) : Int) := rfl
    have hM : (bigN b (11 + idLen b) 1 : Int) = ((datLen b : Nat) : Int) := rfl
    simp only [Nat.zero_add, Nat.reduceAdd, hN]
    rcases Nat.lt_or_ge b.length (7 + idLen b) with e7 | e7
    · rw [take_short hh 7 (idLen b) (by omega) (by omega)]
      simp only [nb1, nb2, nb4, tb]
      rfl
    rw [take_good hh 7 (idLen b) e7]
    simp only
    rcases Nat.lt_or_ge b.length (7 + idLen b + 4) with e11 | e11
    · rw [num_short hb hh (7 + idLen b) 4 4 rfl (by omega) (by omega)]
      simp only [nb1, nb2, nb4, tb]
      rfl
    rw [num_good hb hh (7 + idLen b) 4 4 rfl (by omega) e11]
    simp only
    rcases Nat.lt_or_ge b.length (7 + idLen b + 4 + 1) with e12 | e12
    · rw [num_short hb hh (7 + idLen b + 4) 1 1 rfl (by omega) (by omega)]
      simp only [nb1, nb2, nb4, tb]
      rfl
    rw [num_good hb hh (7 + idLen b + 4) 1 1 rfl (by omega) e12]
    simp only
    rw [show 7 + idLen b + 4 = 11 + idLen b by omega, hM, show 11 + idLen b + 1 = 12 + idLen b by omega, take_short hh (12 + idLen b) (datLen b) (by omega) c4]
    rfl

theorem bl_irrefl : ∀ x : List UInt8, Op.bytesLess x x = false
  | [] => rfl
  | a :: x => by
    have h : ¬ a < a := UInt8.lt_irrefl a
    simp [Op.bytesLess, bl_irrefl x, h]
theorem bl_trans : ∀ {x y z : List UInt8}, Op.bytesLess x y = true → Op.bytesLess y z = true → Op.bytesLess x z = true
  | _, [], _, h, _ => by cases ‹List UInt8› <;> simp [Op.bytesLess] at h
  | _, _ :: _, [], _, h => by simp [Op.bytesLess] at h
  | [], _ :: _, _ :: _, _, _ => rfl
  | a :: x, b :: y, c :: z, h1, h2 => by
    simp only [Op.bytesLess, Bool.or_eq_true, Bool.and_eq_true, decide_eq_true_eq, beq_iff_eq] at h1 h2 ⊢
    rcases h1 with h1 | ⟨rfl, h1⟩
    · rcases h2 with h2 | ⟨rfl, h2⟩
      · exact .inl (UInt8.lt_trans h1 h2)
      · exact .inl h1
    · rcases h2 with h2 | ⟨rfl, h2⟩
      · exact .inl h2
      · exact .inr ⟨rfl, bl_trans h1 h2⟩
theorem bl_total : ∀ {x y : List UInt8}, Op.bytesLess x y = false → Op.bytesLess y x = false → x = y
  | [], [], _, _ => rfl
  | [], _ :: _, h, _ => by simp [Op.bytesLess] at h
  | _ :: _, [], _, h => by simp [Op.bytesLess] at h
  | a :: x, b :: y, h1, h2 => by
    simp only [Op.bytesLess, Bool.or_eq_false_iff, decide_eq_false_iff_not, Bool.and_eq_false_iff, beq_eq_false_iff_ne] at h1 h2
    have hab : a = b := by
      apply UInt8.le_antisymm
      · exact UInt8.not_lt.1 h2.1
      · exact UInt8.not_lt.1 h1.1
    subst hab
    exact congrArg (a :: ·) (bl_total (by simpa using h1.2) (by simpa using h2.2))
theorem bl_asymm {x y : List UInt8} (h : Op.bytesLess x y = true) : Op.bytesLess y x = false := by
  cases e : Op.bytesLess y x with
  | false => rfl
  | true => have := bl_trans h e; rw [bl_irrefl] at this; cases this
/-- Uploads in the order of their names. -/
def Ord (us : List TUp) : Prop := us.Pairwise fun a b => Op.bytesLess a.1.toList b.1.toList = true
theorem ord_at {us : List TUp} (h : Ord us) {i j : Nat} (hij : i < j) (hj : j < us.length) : Op.bytesLess (us[i]'(by omega)).1.toList us[j].1.toList = true := List.pairwise_iff_getElem.1 h i j (by omega) hj hij
/-- Where an upload would stand. -/
def upIns (us : List TUp) (id : ByteArray) : Nat := firstN (fun i => Op.bytesLess (rd kUp us (i : Int)).1.toList id.toList) 0 us.length
def upHas (us : List TUp) (id : ByteArray) : Bool := decide (upIns us id < us.length) && ((rd kUp us (upIns us id : Int)).1.toList == id.toList)
theorem firstN_goes (go : Nat → Bool) : ∀ k i j, i ≤ j → j < firstN go i k → go j = true
  | 0, i, j, h1, h2 => by simp only [firstN] at h2; omega
  | k + 1, i, j, h1, h2 => by
    simp only [firstN] at h2
    split at h2
    · rename_i hg
      by_cases e : j = i
      · rw [e]; exact hg
      · exact firstN_goes go k (i + 1) j (by omega) h2
    · omega
theorem firstN_uniq (go : Nat → Bool) (n p : Nat) (hp : p ≤ n) (h1 : ∀ j, j < p → go j = true) (h2 : p < n → go p = false) : firstN go 0 n = p := by
  have hl := firstN_le go n 0
  rcases Nat.lt_trichotomy (firstN go 0 n) p with h | h | h
  · have := firstN_fails go n 0 (by omega)
    rw [h1 _ h] at this; cases this
  · exact h
  · have := firstN_goes go n 0 p (by omega) h
    rw [h2 (by omega)] at this; cases this
theorem upIns_le (us : List TUp) (id : ByteArray) : upIns us id ≤ us.length := by have := firstN_le (fun i => Op.bytesLess (rd kUp us (i : Int)).1.toList id.toList) us.length 0; unfold upIns; omega
theorem upIns_lo {us : List TUp} {id : ByteArray} {j : Nat} (hj : j < upIns us id) : Op.bytesLess (us[j]'(by have := upIns_le us id; omega)).1.toList id.toList = true := by
  have := firstN_goes _ us.length 0 j (by omega) hj
  rwa [rd_nat (k := kUp) (xs := us) (by have := upIns_le us id; omega)] at this
theorem upIns_at {us : List TUp} {id : ByteArray} (h : upIns us id < us.length) : Op.bytesLess us[upIns us id].1.toList id.toList = false := by
  have := firstN_fails (fun i => Op.bytesLess (rd kUp us (i : Int)).1.toList id.toList) us.length 0 (by unfold upIns at h; omega)
  have h2 : Op.bytesLess (rd kUp us (upIns us id : Int)).1.toList id.toList = false := this
  rwa [rd_nat (k := kUp) (xs := us) h] at h2
theorem upIns_hi {us : List TUp} (ho : Ord us) {id : ByteArray} {j : Nat} (hj : upIns us id ≤ j) (hl : j < us.length) : Op.bytesLess us[j].1.toList id.toList = false := by
  rcases Nat.eq_or_lt_of_le hj with e | h
  · subst e; exact upIns_at hl
  · cases e : Op.bytesLess us[j].1.toList id.toList with
    | false => rfl
    | true =>
      have := bl_trans (ord_at ho h hl) e
      rw [upIns_at (by omega)] at this
      cases this
theorem upHas_iff {us : List TUp} {id : ByteArray} : upHas us id = true ↔ ∃ h : upIns us id < us.length, us[upIns us id].1.toList = id.toList := by
  unfold upHas
  constructor
  · intro h
    simp only [Bool.and_eq_true, decide_eq_true_eq, beq_iff_eq] at h
    refine ⟨h.1, ?_⟩
    have h2 := h.2
    rwa [rd_nat (k := kUp) (xs := us) h.1] at h2
  · rintro ⟨h, e⟩
    simp only [Bool.and_eq_true, decide_eq_true_eq, beq_iff_eq]
    refine ⟨h, ?_⟩
    rw [rd_nat (k := kUp) (xs := us) h]
    exact e
/-- Where there is no such upload, all from its place on are greater. -/
theorem upIns_gt {us : List TUp} (ho : Ord us) {id : ByteArray} (hn : upHas us id = false) {j : Nat} (hj : upIns us id ≤ j) (hl : j < us.length) : Op.bytesLess id.toList us[j].1.toList = true := by
  cases e : Op.bytesLess id.toList us[j].1.toList with
  | true => rfl
  | false =>
    have h1 := bl_total (upIns_hi ho hj hl) e
    exfalso
    rcases Nat.eq_or_lt_of_le hj with e2 | h
    · subst e2
      have := upHas_iff.2 ⟨hl, h1⟩
      rw [hn] at this; cases this
    · have h2 := ord_at ho h hl
      rw [h1, upIns_at (by omega)] at h2
      cases h2
theorem upIx_has {us : List TUp} (ho : Ord us) {id : ByteArray} (h : upHas us id = true) : upIx us id = upIns us id := by
  obtain ⟨hl, e⟩ := upHas_iff.1 h
  refine firstN_uniq _ us.length _ (upIns_le us id) (fun j hj => ?_) (fun _ => ?_)
  · rw [rd_nat (k := kUp) (xs := us) (by omega)]
    have h1 := upIns_lo hj
    cases e2 : ((us[j]'(by omega)).1.toList == id.toList) with
    | false => rfl
    | true =>
      rw [eq_of_beq e2, bl_irrefl] at h1
      cases h1
  · rw [rd_nat (k := kUp) (xs := us) hl, e]
    simp
theorem upIx_not {us : List TUp} (ho : Ord us) {id : ByteArray} (h : upHas us id = false) : upIx us id = us.length := by
  refine firstN_uniq _ us.length _ (Nat.le_refl _) (fun j hj => ?_) (fun h => by omega)
  rw [rd_nat (k := kUp) (xs := us) hj]
  cases e2 : (us[j].1.toList == id.toList) with
  | false => rfl
  | true =>
    exfalso
    have e3 := eq_of_beq e2
    by_cases hp : j < upIns us id
    · have h1 := upIns_lo hp
      rw [e3, bl_irrefl] at h1
      cases h1
    · have h1 := upIns_gt ho h (show upIns us id ≤ j by omega) hj
      rw [e3, bl_irrefl] at h1
      cases h1
theorem i_upAt_eq (us : List TUp) (id : ByteArray) (h : us.length ≤ maxLen) : P_i_upAt us id = some ((upIns us id : Int), upHas us id, ()) := by
  simp only [P_i_upAt, B_i_upAt]
  have e := loopO_first (L_i_upAt_0 us id) (fun i => ((i : Int), ())) us.length (fun i => ((i : Int), ())) (fun i => Op.bytesLess (rd kUp us (i : Int)).1.toList id.toList) (fun i hi => ?_) ?_
  · have e' : loopO (L_i_upAt_0 us id) (0, ()) = some ((upIns us id : Int), ()) := e
    rw [e']
    simp only [bindO]
    have hle := upIns_le us id
    unfold upHas
    by_cases hl : upIns us id < us.length
    · rw [dec_true (show (upIns us id : Int) < (us.length : Int) by omega), dec_true (show (0 : Int) ≤ (upIns us id : Int) by omega), dec_true hl]
      simp
    · rw [dec_false (show ¬ (upIns us id : Int) < (us.length : Int) by omega), dec_false hl]
      simp
  · have h1 : ((i : Int) < (us.length : Int)) := by omega
    have h2 : (0 : Int) ≤ (i : Int) := by omega
    simp only [L_i_upAt_0, dec_true h1, dec_true h2, cond_true]
    rw [w64 (by omega) (by simp only [maxLen] at h; omega)]
    cases Op.bytesLess (rd kUp us (i : Int)).1.toList id.toList <;> simp
  · simp [L_i_upAt_0]
theorem copyUps_eq (us : List TUp) (h : us.length ≤ 1048576) (hd : ∀ u ∈ us, List.length u.2.2.1 ≤ 2000000000) : P_s_l14CopyUps us = some (us, ()) := by
  simp only [P_s_l14CopyUps, B_s_l14CopyUps]
  have key := loopO_count (L_s_l14CopyUps_0 us) (fun i => ((i : Int), us.take i, ())) us.length (us, ()) (fun i hi => ?_) ?_
  · simpa using key
  · have h1 : ((i : Int) < (us.length : Int)) := by omega
    have h2 : (0 : Int) ≤ (i : Int) := by omega
    have hu : List.length (rd kUp us (i : Int)).2.2.1 ≤ 2000000000 := by
      rw [rd_nat (k := kUp) (xs := us) hi]
      exact hd _ (List.getElem_mem hi)
    have e : ((rd kUp us (i : Int)).1, (rd kUp us (i : Int)).2.1, [] ++ (rd kUp us (i : Int)).2.2.1, (rd kUp us (i : Int)).2.2.2) = us[i] := by
      rw [rd_nat (k := kUp) (xs := us) hi]
      rfl
    simp only [L_s_l14CopyUps_0, dec_true h1, dec_true h2, cond_true, e]
    rw [dec_true (by simp; omega), dec_true (by simp; omega), dec_true (by simp; omega), dec_true (by simp; omega), w64 (by omega) (by omega)]
    simp only [cond_true]
    rw [List.take_succ_eq_append_getElem hi]
    rfl
  · simp [L_s_l14CopyUps_0]
/-- The reference's upload in order: somewhere; at its place, if it is not there yet. -/
theorem l14Make_eq (us : List TUp) (u : TUp) (ho : Ord us) (h : us.length ≤ 1048576) (hd : ∀ u ∈ us, List.length u.2.2.1 ≤ 2000000000) :
    ∃ k, k ≤ us.length ∧ P_s_l14Make_r98_0_r99_0 us u = some (us.take k ++ u :: us.drop k, ()) ∧ (upHas us u.1 = false → k = upIns us u.1) := by
  simp only [P_s_l14Make_r98_0_r99_0, B_s_l14Make_r98_0_r99_0, copyUps_eq us h hd, bindO]
  rw [dec_true (by simp; omega), dec_true (by simp; omega)]
  simp only [cond_true]
  have hst : IntKind.i64.wrap (((us ++ [u]).length : Int) - 1) = (us.length : Int) := by
    rw [w64 (by simp only [List.length_append, List.length_singleton]; omega) (by simp only [List.length_append, List.length_singleton]; omega)]
    simp
  rw [hst]
  obtain ⟨z, e, k, hz1, hz2, hz3⟩ := loopO_ind (L_s_l14Make_r98_0_r99_0_0 u) (fun l => l.1.toNat)
    (fun l => ∃ (k : Nat) (c : TUp), l.1 = (k : Int) ∧ k ≤ us.length ∧ l.2.1 = us.take k ++ c :: us.drop k ∧ (upHas us u.1 = false → upIns us u.1 ≤ k))
    (fun z => ∃ k : Nat, k ≤ us.length ∧ (upHas us u.1 = false → k = upIns us u.1) ∧ ∃ c, z = ((k : Int), us.take k ++ c :: us.drop k, ())) (fun l hl => by
      obtain ⟨l1, l2, l3⟩ := l
      obtain ⟨k, c, h1, h2, h3, h4⟩ := hl
      simp only at h1 h3
      subst h1; subst h3
      simp only [L_s_l14Make_r98_0_r99_0_0]
      by_cases hk : k = 0
      · subst hk
        refine .inr ⟨_, by rw [dec_false (by omega)]; rfl, 0, by omega, fun q => ?_, c, rfl⟩
        have := h4 q; omega
      · obtain ⟨k, rfl⟩ : ∃ k', k = k' + 1 := ⟨k - 1, by omega⟩
        have hlen : (us.take (k + 1) ++ c :: us.drop (k + 1)).length = us.length + 1 := by simp; omega
        have ew : IntKind.i64.wrap (((k + 1 : Nat) : Int) - 1) = (k : Int) := by rw [w64 (by omega) (by omega)]; omega
        have hget : rd (.pair .str (.pair (.int .i64) (.pair (.rs 5 (.int .u8)) .bool))) (us.take (k + 1) ++ c :: us.drop (k + 1)) (k : Int) = us[k]'(by omega) := by
          rw [rd_nat (k := .pair .str (.pair (.int .i64) (.pair (.rs 5 (.int .u8)) .bool))) (xs := us.take (k + 1) ++ c :: us.drop (k + 1)) (by rw [hlen]; omega)]
          rw [List.getElem_append_left (by simp; omega), List.getElem_take]
        rw [dec_true (show ((k + 1 : Nat) : Int) > 0 by omega), ew, hlen, dec_true (show (0 : Int) ≤ (k : Int) by omega), dec_true (show (k : Int) < ((us.length + 1 : Nat) : Int) by omega), hget]
        simp only [cond_true]
        have hlen2 : (k : Int) + 1 = ((k + 1 : Nat) : Int) := by omega
        cases hc : (!(Op.bytesLess (us[k]'(by omega)).1.toList u.1.toList || ((us[k]'(by omega)).1.toList == u.1.toList))) with
        | false =>
          refine Or.inr ⟨(((k + 1 : Nat) : Int), us.take (k + 1) ++ c :: us.drop (k + 1), ()), rfl, k + 1, h2, fun q => ?_, c, rfl⟩
          have h5 := h4 q
          by_cases hkp : upIns us u.1 ≤ k
          · have h6 := upIns_gt ho q hkp (by omega)
            simp only [Bool.not_eq_false', Bool.or_eq_true, beq_iff_eq] at hc
            rcases hc with hc | hc
            · rw [bl_asymm h6] at hc; cases hc
            · rw [hc, bl_irrefl] at h6; cases h6
          · omega
        | true =>
          refine Or.inl ⟨((k : Int), us.take k ++ (us[k]'(by omega)) :: us.drop k, ()), ?_, ⟨k, us[k]'(by omega), rfl, by omega, rfl, fun q => ?_⟩, by simp only; omega⟩
          · simp only [cond_true, bindS]
            rw [dec_true (show (0 : Int) ≤ ((k + 1 : Nat) : Int) by omega), dec_true (show ((k + 1 : Nat) : Int) < ((us.length + 1 : Nat) : Int) by omega)]
            simp only [cond_true, bindO, Int.toNat_natCast]
            have e1 : (us.take (k + 1) ++ c :: us.drop (k + 1)).set (k + 1) (us[k]'(by omega)) = us.take k ++ (us[k]'(by omega)) :: us.drop k := by
              rw [List.set_append_right _ _ (by simp; omega)]
              rw [show (us.take (k + 1)).length = k + 1 by simp; omega, Nat.sub_self, List.set_cons_zero, List.take_succ_eq_append_getElem (by omega), List.append_assoc, List.drop_eq_getElem_cons (i := k) (by omega)]
              rfl
            rw [e1]
          · have h5 := h4 q
            by_cases hkp : k < upIns us u.1
            · have h6 := upIns_lo hkp
              rw [h6] at hc
              simp at hc
            · omega) ((us.length : Int), us ++ [u], ()) ⟨us.length, u, rfl, Nat.le_refl _, by simp, fun _ => upIns_le us u.1⟩
  obtain ⟨c, rfl⟩ := hz3
  rw [e]
  simp only
  have hlen : (us.take k ++ c :: us.drop k).length = us.length + 1 := by simp; omega
  rw [dec_true (by omega), dec_true (by rw [hlen]; omega)]
  simp only [cond_true, Int.toNat_natCast]
  refine ⟨k, hz1, ?_, hz2⟩
  rw [List.set_append_right _ _ (by simp; omega), show (us.take k).length = k by simp; omega, Nat.sub_self, List.set_cons_zero]
/-- A record that was read. -/
def RecG (r : TRec) : Prop := recOkB r = true ∧ Byt r.2.2.2.2.2
/-- An upload that a store may have. -/
def UpG (u : TUp) : Prop := (List.length u.2.2.1 : Int) ≤ u.2.1 ∧ u.2.1 ≤ 1000000000 ∧ u.1.size ≤ 8 ∧ Byt u.2.2.1
/-- Uploads that a store may have. -/
def Ups (us : List TUp) : Prop := Ord us ∧ us.length ≤ 10 ∧ ∀ u ∈ us, UpG u
theorem ups_nil : Ups [] := ⟨List.Pairwise.nil, by simp, fun u hu => by cases hu⟩
theorem ups_dat {us : List TUp} (h : Ups us) : ∀ u ∈ us, List.length u.2.2.1 ≤ 2000000000 := fun u hu => by have h1 := (h.2.2 u hu).1; have h2 := (h.2.2 u hu).2.1; omega
/-- What a record makes of uploads. -/
def foldOne (us : List TUp) (r : TRec) : Option (List TUp) :=
  let p := upIns us r.2.2.2.1
  let u := rd kUp us (p : Int)
  if r.2.2.1 = 1 then (if upHas us r.2.2.2.1 = true ∨ 10 ≤ us.length then none else some (us.take p ++ (r.2.2.2.1, r.2.2.2.2.1, [], false) :: us.drop p))
  else if upHas us r.2.2.2.1 = false then none
  else if r.2.2.1 = 2 then (if u.2.2.2 = true ∨ r.2.2.2.2.1 ≠ (List.length u.2.2.1 : Int) ∨ (List.length u.2.2.1 : Int) + (List.length r.2.2.2.2.2 : Int) > u.2.1 then none else some (us.set p (u.1, u.2.1, u.2.2.1 ++ r.2.2.2.2.2, u.2.2.2)))
  else if r.2.2.1 = 3 then (if u.2.2.2 = true ∨ (List.length u.2.2.1 : Int) ≠ u.2.1 then none else some (us.set p (u.1, u.2.1, u.2.2.1, true)))
  else if r.2.2.1 = 4 then some (us.take p ++ us.drop (p + 1))
  else none
def foldI (us : List TUp) (r : TRec) : List TUp × Bool × Unit := match foldOne us r with
  | some us' => (us', true, ())
  | none => ([], false, ())
theorem i_fold_eq (us : List TUp) (r : TRec) (h : Ups us) (h2 : List.length r.2.2.2.2.2 ≤ 1048576) : P_i_fold us r = some (foldI us r) := by
  have hl := h.2.1
  have hp := upIns_le us r.2.2.2.1
  simp only [P_i_fold, B_i_fold, i_upAt_eq us _ (show us.length ≤ maxLen by simp only [maxLen]; omega), bindO, foldI, foldOne]
  by_cases k1 : r.2.2.1 = 1
  · rw [dec_true k1, if_pos k1]
    simp only [cond_true]
    cases hh : upHas us r.2.2.2.1 with
    | true => simp [bindS]
    | false =>
      by_cases h10 : 10 ≤ us.length
      · rw [dec_true (show (us.length : Int) ≥ 10 by omega), if_pos (.inr h10)]
        rfl
      · rw [dec_false (show ¬ (us.length : Int) ≥ 10 by omega), if_neg (by simp; omega)]
        simp only [cond_false, bindS, P_slices_Insert_impl_Up_impl_Up, insFn]
        rw [dec_true (by omega), dec_true (by omega), dec_true (by simp), dec_true (by simp; omega)]
        simp [bindO]
  rw [dec_false k1, if_neg k1]
  simp only [cond_false]
  cases hh : upHas us r.2.2.2.1 with
  | false => simp
  | true =>
    obtain ⟨hlt, hid⟩ := upHas_iff.1 hh
    have hu : (List.length us[upIns us r.2.2.2.1].2.2.1 : Int) ≤ us[upIns us r.2.2.2.1].2.1 ∧ us[upIns us r.2.2.2.1].2.1 ≤ 1000000000 := ⟨(h.2.2 _ (List.getElem_mem hlt)).1, (h.2.2 _ (List.getElem_mem hlt)).2.1⟩
    have hrd : rd kUp us (upIns us r.2.2.2.1 : Int) = us[upIns us r.2.2.2.1] := rd_nat (k := kUp) (xs := us) hlt
    simp only [Bool.not_true, cond_false, Bool.true_eq_false, if_false]
    rw [dec_true (by omega), dec_true (by omega)]
    simp only [cond_true, Int.toNat_natCast, hrd]
    generalize us[upIns us r.2.2.2.1] = u at hu hid ⊢
    by_cases k2 : r.2.2.1 = 2
    · rw [dec_true k2, if_pos k2]
      simp only [cond_true]
      cases hd : u.2.2.2 with
      | true => simp [bindS]
      | false =>
        by_cases hn : r.2.2.2.2.1 = (List.length u.2.2.1 : Int)
        · rw [dec_true hn, w64 (by omega) (by omega)]
          by_cases hw : (List.length u.2.2.1 : Int) + (List.length r.2.2.2.2.2 : Int) > u.2.1
          · rw [dec_true hw, if_pos (.inr (.inr hw))]
            rfl
          · rw [dec_false hw, if_neg (by simp [hn]; omega)]
            simp only [Bool.not_true, cond_false, bindS]
            rw [dec_true (by omega), dec_true (by omega)]
            rfl
        · rw [dec_false hn, if_pos (.inr (.inl hn))]
          rfl
    rw [dec_false k2, if_neg k2]
    by_cases k3 : r.2.2.1 = 3
    · rw [dec_true k3, if_pos k3]
      simp only [cond_true, cond_false]
      cases hd : u.2.2.2 with
      | true => simp
      | false =>
        by_cases hn : (List.length u.2.2.1 : Int) = u.2.1
        · rw [dec_true hn, if_neg (by simp [hn])]
          rfl
        · rw [dec_false hn, if_pos (.inr hn)]
          rfl
    rw [dec_false k3, if_neg k3]
    by_cases k4 : r.2.2.1 = 4
    · rw [dec_true k4, if_pos k4, w64 (n := (upIns us r.2.2.2.1 : Int) + 1) (by omega) (by omega)]
      simp only [cond_true, cond_false, P_slices_Delete_impl_Up_impl_Up, delFn]
      rw [dec_true (by omega), dec_true (by omega), dec_true (by omega)]
      simp only [cond_true, Int.toNat_natCast]
      rw [show ((upIns us r.2.2.2.1 : Int) + 1).toNat = upIns us r.2.2.2.1 + 1 by omega]
    rw [dec_false k4, if_neg k4]
    rfl
theorem s_one_eq (us : List TUp) (r : TRec) (h : Ups us) (h2 : List.length r.2.2.2.2.2 ≤ 1048576) : ∃ x, P_s_l14One_r99_0 us r = some (x, (foldI us r).2.1, ()) ∧ ((foldI us r).2.1 = true → x = (foldI us r).1) := by
  have hl := h.2.1
  have hp := upIns_le us r.2.2.2.1
  have hat := l14At_eq us r.2.2.2.1 (show us.length ≤ maxLen by simp only [maxLen]; omega)
  have hcp := copyUps_eq us (by omega) (ups_dat h)
  obtain ⟨k, hk, hmk, hmk2⟩ := l14Make_eq us (r.2.2.2.1, r.2.2.2.2.1, [], false) h.1 (by omega) (ups_dat h)
  simp only [P_s_l14One_r99_0, B_s_l14One_r99_0, hat, hcp, hmk, bindO, foldI, foldOne]
  by_cases k1 : r.2.2.1 = 1
  · rw [dec_true k1, if_pos k1]
    simp only [cond_true]
    cases hh : upHas us r.2.2.2.1 with
    | true =>
      obtain ⟨hlt, hid⟩ := upHas_iff.1 hh
      rw [upIx_has h.1 hh, if_pos hlt, dec_false (by omega)]
      simp
    | false =>
      have hk2 := hmk2 hh
      simp only at hk2
      rw [upIx_not h.1 hh, if_neg (Nat.lt_irrefl _), dec_true (by omega)]
      simp only [cond_true]
      by_cases h10 : 10 ≤ us.length
      · rw [dec_false (by omega), if_pos (.inr h10)]
        simp
      · rw [dec_true (by omega), if_neg (by simp; omega), hk2]
        simp
  rw [dec_false k1, if_neg k1]
  simp only [cond_false]
  cases hh : upHas us r.2.2.2.1 with
  | false =>
    rw [upIx_not h.1 hh, if_neg (Nat.lt_irrefl _), dec_true (by omega)]
    simp
  | true =>
    obtain ⟨hlt, hid⟩ := upHas_iff.1 hh
    have hu : (List.length us[upIns us r.2.2.2.1].2.2.1 : Int) ≤ us[upIns us r.2.2.2.1].2.1 ∧ us[upIns us r.2.2.2.1].2.1 ≤ 1000000000 := ⟨(h.2.2 _ (List.getElem_mem hlt)).1, (h.2.2 _ (List.getElem_mem hlt)).2.1⟩
    have hrd : rd kUp us (upIns us r.2.2.2.1 : Int) = us[upIns us r.2.2.2.1] := rd_nat (k := kUp) (xs := us) hlt
    rw [upIx_has h.1 hh, if_pos hlt, dec_false (by omega)]
    simp only [cond_false, Bool.true_eq_false, if_false]
    rw [dec_true (by omega), dec_true (by omega)]
    simp only [cond_true, Int.toNat_natCast, hrd]
    generalize us[upIns us r.2.2.2.1] = u at hu hid ⊢
    by_cases k2 : r.2.2.1 = 2
    · rw [dec_true k2, if_pos k2]
      simp only [cond_true]
      cases hd : u.2.2.2 with
      | true => simp [bindS]
      | false =>
        by_cases hn : r.2.2.2.2.1 = (List.length u.2.2.1 : Int)
        · rw [dec_true hn, hn, w64 (by omega) (by omega)]
          by_cases hw : (List.length u.2.2.1 : Int) + (List.length r.2.2.2.2.2 : Int) > u.2.1
          · rw [dec_true hw, if_pos (.inr (.inr hw))]
            exact ⟨_, rfl, fun e => by cases e⟩
          · rw [dec_false hw, if_neg (by simp; omega)]
            simp only [Bool.not_true, cond_false, bindS]
            rw [dec_true (by omega), dec_true (by omega)]
            exact ⟨_, rfl, fun _ => rfl⟩
        · rw [dec_false hn, if_pos (.inr (.inl hn))]
          exact ⟨_, rfl, fun e => by cases e⟩
    rw [dec_false k2, if_neg k2]
    by_cases k3 : r.2.2.1 = 3
    · rw [dec_true k3, if_pos k3]
      simp only [cond_true, cond_false]
      cases hd : u.2.2.2 with
      | true => simp
      | false =>
        by_cases hn : (List.length u.2.2.1 : Int) = u.2.1
        · rw [dec_true hn, if_neg (by simp [hn])]
          exact ⟨_, rfl, fun _ => rfl⟩
        · rw [dec_false hn, if_pos (.inr hn)]
          exact ⟨_, rfl, fun e => by cases e⟩
    rw [dec_false k3, if_neg k3]
    by_cases k4 : r.2.2.1 = 4
    · rw [dec_true k4, if_pos k4, w64 (n := (upIns us r.2.2.2.1 : Int) + 1) (by omega) (by omega)]
      simp only [cond_true, cond_false]
      rw [dec_true (by omega), dec_true (by omega), dec_true (by omega), dec_true (by omega)]
      simp only [cond_true]
      rw [show ((upIns us r.2.2.2.1 : Int) + 1).toNat = upIns us r.2.2.2.1 + 1 by omega, dec_true (by omega)]
      simp only [cond_true, List.take_length]
      exact ⟨_, rfl, fun _ => rfl⟩
    rw [dec_false k4, if_neg k4]
    exact ⟨_, rfl, fun e => by cases e⟩
theorem ord_set {us : List TUp} (h : Ord us) (p : Nat) (hp : p < us.length) (u : TUp) (hu : u.1 = us[p].1) : Ord (us.set p u) := by
  refine List.pairwise_iff_getElem.2 fun i j hi hj hij => ?_
  simp only [List.length_set] at hi hj
  have hk : ∀ q (hq : q < us.length), ((us.set p u)[q]'(by simpa using hq)).1 = us[q].1 := fun q hq => by
    rw [List.getElem_set]
    split
    · rename_i e; subst e; exact hu
    · rfl
  rw [hk i hi, hk j hj]
  exact ord_at h hij hj
theorem foldOne_ups {us us' : List TUp} {r : TRec} (h : Ups us) (hr' : RecG r) (e : foldOne us r = some us') : Ups us' := by
  have hr := hr'.1
  have hp := upIns_le us r.2.2.2.1
  have hb := recOk_bnd hr
  simp only [foldOne] at e
  split at e
  · split at e
    · cases e
    rename_i hc
    injection e with e
    subst e
    have hnh : upHas us r.2.2.2.1 = false := by cases q : upHas us r.2.2.2.1; rfl; exact absurd (.inl q) hc
    refine ⟨?_, by simp; omega, fun u hu => ?_⟩
    · show List.Pairwise _ _
      rw [List.pairwise_append]
      refine ⟨h.1.sublist (List.take_sublist _ _), List.pairwise_cons.2 ⟨fun b hb => ?_, h.1.sublist (List.drop_sublist _ _)⟩, fun a ha b hb => ?_⟩
      · obtain ⟨j, hj, rfl⟩ := List.getElem_of_mem hb
        rw [List.getElem_drop]
        exact upIns_gt h.1 hnh (by omega) _
      · obtain ⟨j, hj, rfl⟩ := List.getElem_of_mem ha
        rw [List.length_take] at hj
        rw [List.getElem_take]
        have h1 := upIns_lo (us := us) (id := r.2.2.2.1) (j := j) (by omega)
        rcases List.mem_cons.1 hb with rfl | hb
        · exact h1
        · obtain ⟨q, hq, rfl⟩ := List.getElem_of_mem hb
          rw [List.getElem_drop]
          rw [List.length_drop] at hq
          exact bl_trans h1 (upIns_gt h.1 hnh (by omega) (by omega))
    · rcases List.mem_append.1 hu with hu | hu
      · exact h.2.2 u (List.mem_of_mem_take hu)
      · rcases List.mem_cons.1 hu with rfl | hu
        · exact ⟨by simp only [List.length_nil]; omega, by simp only; omega, hb.2.2.2.2.1, byt_nil⟩
        · exact h.2.2 u (List.mem_of_mem_drop hu)
  split at e
  · cases e
  rename_i _ hh
  have hh : upHas us r.2.2.2.1 = true := by cases q : upHas us r.2.2.2.1; exact absurd q hh; rfl
  obtain ⟨hlt, hid⟩ := upHas_iff.1 hh
  have hrd : rd kUp us (upIns us r.2.2.2.1 : Int) = us[upIns us r.2.2.2.1] := rd_nat (k := kUp) (xs := us) hlt
  have hu0 := h.2.2 _ (List.getElem_mem hlt)
  simp only [hrd] at e
  split at e
  · split at e
    · cases e
    rename_i hc
    injection e with e
    subst e
    refine ⟨ord_set h.1 _ hlt _ rfl, by simp; exact h.2.1, fun u hu => ?_⟩
    rcases List.mem_or_eq_of_mem_set hu with hu | rfl
    · exact h.2.2 u hu
    · refine ⟨?_, hu0.2.1, hu0.2.2.1, byt_app hu0.2.2.2 hr'.2⟩
      simp only [List.length_append]
      have : ¬ ((List.length us[upIns us r.2.2.2.1].2.2.1 : Int) + (List.length r.2.2.2.2.2 : Int) > us[upIns us r.2.2.2.1].2.1) := fun q => hc (.inr (.inr q))
      omega
  split at e
  · split at e
    · cases e
    injection e with e
    subst e
    refine ⟨ord_set h.1 _ hlt _ rfl, by simp; exact h.2.1, fun u hu => ?_⟩
    rcases List.mem_or_eq_of_mem_set hu with hu | rfl
    · exact h.2.2 u hu
    · exact hu0
  split at e
  · injection e with e
    subst e
    refine ⟨?_, by have := h.2.1; simp only [List.length_append, List.length_take, List.length_drop]; omega, fun u hu => ?_⟩
    · show List.Pairwise _ _
      rw [List.pairwise_append]
      refine ⟨h.1.sublist (List.take_sublist _ _), h.1.sublist (List.drop_sublist _ _), fun a ha b hb => ?_⟩
      obtain ⟨j, hj, rfl⟩ := List.getElem_of_mem ha
      obtain ⟨q, hq, rfl⟩ := List.getElem_of_mem hb
      rw [List.length_take] at hj
      rw [List.length_drop] at hq
      rw [List.getElem_take, List.getElem_drop]
      exact ord_at h.1 (by omega) (by omega)
    · rcases List.mem_append.1 hu with hu | hu
      · exact h.2.2 u (List.mem_of_mem_take hu)
      · exact h.2.2 u (List.mem_of_mem_drop hu)
  · cases e
/-- What records make. -/
def foldAll : List TUp → List TRec → Option (List TUp)
  | us, [] => some us
  | us, r :: l => match foldOne us r with
    | some us' => foldAll us' l
    | none => none
def foldRecs (l : List TRec) : List TUp × Bool × Unit := match foldAll [] l with
  | some us => (us, true, ())
  | none => ([], false, ())
theorem foldAll_ups : ∀ {l : List TRec} {us us' : List TUp}, Ups us → (∀ r ∈ l, RecG r) → foldAll us l = some us' → Ups us'
  | [], us, us', h, _, e => by simp only [foldAll, Option.some.injEq] at e; subst e; exact h
  | r :: l, us, us', h, hr, e => by
    simp only [foldAll] at e
    split at e
    · rename_i us1 e1
      exact foldAll_ups (foldOne_ups h (hr r (by simp)) e1) (fun x hx => hr x (by simp [hx])) e
    · cases e
theorem fold_loop {α : Type} (f : α → Option (α ⊕ ((List TUp × Unit) ⊕ (List TUp × Bool × Unit)))) (s : Nat → List TUp → α) (l : List TRec) (hr : ∀ r ∈ l, RecG r)
    (hs : ∀ (i : Nat) (hi : i < l.length) (us : List TUp), Ups us → f (s i us) = match foldOne us l[i] with
      | some us' => some (.inl (s (i + 1) us'))
      | none => some (.inr (.inr ([], false, ()))))
    (he : ∀ us, f (s l.length us) = some (.inr (.inl (us, ())))) : bindS (loopO f (s 0 [])) (fun m => some (m.1, true, ())) = some (foldRecs l) := by
  have key : ∀ k i us, i + k = l.length → Ups us → bindS (loopO f (s i us)) (fun m => some (m.1, true, ())) = some (match foldAll us (l.drop i) with
      | some us' => (us', true, ())
      | none => ([], false, ())) := by
    intro k
    induction k with
    | zero =>
      intro i us hi hu
      obtain rfl : i = l.length := by omega
      rw [loopO_eq, he]
      simp [foldAll, bindS]
    | succ k ih =>
      intro i us hi hu
      have hlt : i < l.length := by omega
      rw [loopO_eq, hs i hlt us hu, List.drop_eq_getElem_cons hlt]
      simp only [foldAll]
      cases e : foldOne us l[i] with
      | none => rfl
      | some us' => exact ih (i + 1) us' (by omega) (foldOne_ups hu (hr _ (List.getElem_mem hlt)) e)
  exact key l.length 0 [] (by omega) ups_nil
theorem i_FoldRecs_eq (l : List TRec) (hl : l.length ≤ maxLen) (hr : ∀ r ∈ l, RecG r) : P_i_FoldRecs l = some (foldRecs l) := by
  simp only [P_i_FoldRecs, B_i_FoldRecs]
  refine fold_loop (L_i_FoldRecs_0 P_i_fold l) (fun i us => ((i : Int), us, ())) l hr (fun i hi us hu => ?_) (fun us => by simp [L_i_FoldRecs_0])
  have h1 : ((i : Int) < (l.length : Int)) := by omega
  have h2 : (0 : Int) ≤ (i : Int) := by omega
  have hb := recOk_bnd (hr _ (List.getElem_mem hi)).1
  simp only [L_i_FoldRecs_0, dec_true h1, dec_true h2, cond_true]
  rw [rd_nat (k := kRec) (xs := l) hi, i_fold_eq us _ hu (by omega), w64 (by omega) (by simp only [maxLen] at hl; omega)]
  simp only [bindO, foldI]
  cases foldOne us l[i] <;> rfl
theorem s_FoldRecs_eq (l : List TRec) (hl : l.length ≤ maxLen) (hr : ∀ r ∈ l, RecG r) : P_s_FoldRecs_r99_0 l = some (foldRecs l) := by
  simp only [P_s_FoldRecs_r99_0, B_s_FoldRecs_r99_0]
  refine fold_loop (L_s_FoldRecs_r99_0_0 P_s_l14One_r99_0 l) (fun i us => (us, (i : Int), ())) l hr (fun i hi us hu => ?_) (fun us => by simp [L_s_FoldRecs_r99_0_0])
  have h1 : ((i : Int) < (l.length : Int)) := by omega
  have h2 : (0 : Int) ≤ (i : Int) := by omega
  have hb := recOk_bnd (hr _ (List.getElem_mem hi)).1
  obtain ⟨x, hx, hx2⟩ := s_one_eq us l[i] hu (by omega)
  simp only [L_s_FoldRecs_r99_0_0, dec_true h1, dec_true h2, cond_true]
  rw [rd_nat (k := kRec) (xs := l) hi, hx, w64 (by omega) (by simp only [maxLen] at hl; omega)]
  simp only [bindO, foldI] at hx2 ⊢
  cases e : foldOne us l[i] with
  | none => rfl
  | some us' =>
    rw [e] at hx2
    rw [hx2 rfl]
    rfl

/-- Sectors that are not too many nor too long. -/
def Secs (l : List ByteArray) : Prop := l.length ≤ 1048576 ∧ ∀ s ∈ l, s.size ≤ 1048576
theorem secs_at {l : List ByteArray} (h : Secs l) {i : Nat} (hi : i < l.length) : (rd .str l (i : Int)).size ≤ 1048576 := by
  rw [rd_str hi]
  exact h.2 _ (List.getElem_mem hi)
theorem getRec_good {s : ByteArray} (h : (getRec s).2.1 = true) : RecG (getRec s).1 := by
  unfold getRec at h ⊢
  split at h
  · rename_i hg
    rw [if_pos hg]
    simp only [recGood, Bool.and_eq_true] at hg
    exact ⟨hg.1.2, recAt_byt (byt_bytesOf s)⟩
  · cases h
theorem scan_step (d : TDisk) (h : Secs d.1) (l : Int × Int × List TRec × Unit) (h0 : 0 ≤ l.2.1) : L_i_ScanRecs_0 P_i_GetRec d l = L_s_ScanRecs_0 P_s_GetRec d l := by
  simp only [L_i_ScanRecs_0, L_s_ScanRecs_0]
  by_cases hi : l.2.1 < (d.1.length : Int)
  · obtain ⟨i, hn⟩ : ∃ i : Nat, l.2.1 = (i : Int) := ⟨l.2.1.toNat, by omega⟩
    rw [hn] at hi ⊢
    rw [s_GetRec_eq _ (secs_at h (by omega)), i_GetRec_eq _ (secs_at h (by omega))]
  · rw [dec_false hi]
    rfl
theorem scan_ok (d : TDisk) (h : Secs d.1) : ∃ l, P_s_ScanRecs d = some (l, ()) ∧ P_i_ScanRecs d = some (l, ()) ∧ l.length ≤ d.1.length ∧ ∀ r ∈ l, RecG r := by
  have hl := h.1
  obtain ⟨z, e, hz1, hz2⟩ := loopO_ind (L_s_ScanRecs_0 P_s_GetRec d) (fun l => ((d.1.length : Int) - l.2.1).toNat) (fun l => 0 ≤ l.2.1 ∧ (List.length l.2.2.1 : Int) = l.2.1 ∧ l.2.1 ≤ (d.1.length : Int) ∧ ∀ r ∈ l.2.2.1, RecG r)
    (fun z => List.length z.1 ≤ d.1.length ∧ ∀ r ∈ z.1, RecG r) (fun l hl => by
      obtain ⟨h0, h1, h2, h3⟩ := hl
      simp only [L_s_ScanRecs_0]
      by_cases hi : l.2.1 < (d.1.length : Int)
      · obtain ⟨i, hn⟩ : ∃ i : Nat, l.2.1 = (i : Int) := ⟨l.2.1.toNat, by omega⟩
        rw [dec_true hi, dec_true h0]
        simp only [cond_true]
        rw [hn] at hi h0 h1 h2 ⊢
        rw [s_GetRec_eq _ (secs_at h (by omega))]
        simp only [bindO]
        have hg := @getRec_good (rd .str d.1 (i : Int))
        generalize getRec (rd .str d.1 (i : Int)) = g at hg ⊢
        have fin : List.length l.2.2.1 ≤ d.1.length ∧ ∀ r ∈ l.2.2.1, RecG r := ⟨by omega, h3⟩
        cases hk : g.2.1 with
        | false => exact .inr ⟨_, rfl, fin⟩
        | true =>
          simp only [Bool.not_true, cond_false]
          by_cases e1 : g.1.2.1 = (i : Int)
          · rw [dec_true e1]
            by_cases e2 : g.1.1 < l.1
            · rw [dec_true e2]; exact .inr ⟨_, rfl, fin⟩
            · rw [dec_false e2]
              simp only [Bool.not_true, cond_false]
              rw [dec_true (by simp; omega), dec_true (by simp; omega), w64 (by omega) (by omega)]
              refine .inl ⟨_, rfl, ⟨by simp only; omega, by simp; omega, by simp only; omega, fun r hr => ?_⟩, by simp only; omega⟩
              rcases List.mem_append.1 hr with hr | hr
              · exact h3 r hr
              · rw [List.mem_singleton.1 hr]; exact hg hk
          · rw [dec_false e1]; exact .inr ⟨_, rfl, fin⟩
      · rw [dec_false hi]
        exact .inr ⟨_, rfl, by simp only; omega, h3⟩) (0, 0, [], ()) ⟨by simp, by simp, by simp, fun r hr => by cases hr⟩
  refine ⟨z.1, e, ?_, hz1, hz2⟩
  simp only [P_i_ScanRecs, B_i_ScanRecs]
  rw [loopO_congr (g := L_s_ScanRecs_0 P_s_GetRec d) (fun l => 0 ≤ l.2.1) (fun l h0 => scan_step d h l h0) (fun l y h0 e => ?_) (by simp)]
  · exact e
  · simp only [L_i_ScanRecs_0] at e
    by_cases hi : l.2.1 < (d.1.length : Int)
    · obtain ⟨i, hn⟩ : ∃ i : Nat, l.2.1 = (i : Int) := ⟨l.2.1.toNat, by omega⟩
      rw [dec_true hi, dec_true h0] at e
      simp only [cond_true] at e
      rw [hn] at hi h0 e
      rw [i_GetRec_eq _ (secs_at h (by omega))] at e
      simp only [bindO] at e
      rw [w64 (n := (i : Int) + 1) (by omega) (by omega)] at e
      generalize getRec (rd .str d.1 (i : Int)) = g at e
      cases hk : g.2.1 <;> simp only [hk, Bool.not_true, Bool.not_false, cond_true, cond_false] at e
      · cases e
      · revert e
        cases decide (g.1.2.1 = (i : Int)) <;> cases decide (g.1.1 < l.1) <;> simp only [Bool.not_true, Bool.not_false, cond_true, cond_false]
        · intro e; cases e
        · intro e; cases e
        · cases decide (List.length l.2.2.1 + List.length [g.1] ≤ 9223372036854775807) <;> cases decide ((List.length l.2.2.1 + List.length [g.1]) * 72 ≤ 140737488355328) <;> intro e
          · cases e
          · cases e
          · cases e
          · simp only [cond_true] at e
            injection e with e; injection e with e; subst e
            simp only; omega
        · intro e; cases e
    · rw [dec_false hi] at e
      cases e
theorem diskOk_eq : P_i_DiskOk = P_s_DiskOk := rfl
theorem s_DiskOk_ok (d : TDisk) (h : d.1.length ≤ 1048576) : ∃ b, P_s_DiskOk d = some (b, ()) ∧ (b = true → d.1.length = d.2.length ∧ d.1.length ≤ 200) := by
  simp only [P_s_DiskOk, B_s_DiskOk]
  by_cases h1 : (d.1.length : Int) = (d.2.length : Int)
  · rw [dec_true h1]
    by_cases h2 : (d.1.length : Int) > 200
    · rw [dec_true h2]
      exact ⟨_, rfl, fun e => by cases e⟩
    · rw [dec_false h2]
      simp only [Bool.not_true, cond_false, bindS]
      refine ⟨_, loopB (L_s_DiskOk_0 d) d.1.length (by simp only [maxLen]; omega) (fun i => !decide (((rd .str d.1 (i : Int)).size : Int) > 64) && !decide (((rd .str d.2 (i : Int)).size : Int) > 64)) (fun i hi => ?_) (by simp [L_s_DiskOk_0]), fun _ => by omega⟩
      have g1 : ((i : Int) < (d.1.length : Int)) := by omega
      have g2 : (0 : Int) ≤ (i : Int) := by omega
      have g3 : ((i : Int) < (d.2.length : Int)) := by omega
      simp only [L_s_DiskOk_0, dec_true g1, dec_true g2, dec_true g3, cond_true]
      cases decide (((rd .str d.1 (i : Int)).size : Int) > 64) <;> cases decide (((rd .str d.2 (i : Int)).size : Int) > 64) <;> rfl
  · rw [dec_false h1]
    exact ⟨_, rfl, fun e => by cases e⟩
/-- Two uploads that are the same. -/
def sameUpB (a b : TUp) : Bool := (a.1.toList == b.1.toList) && decide (a.2.1 = b.2.1) && (a.2.2.2 == b.2.2.2) && ((strOf a.2.2.1).toList == (strOf b.2.2.1).toList)
def sameUpsB (a b : List TUp) : Bool := decide (a.length = b.length) && (List.range a.length).all fun i => sameUpB (rd kUp a (i : Int)) (rd kUp b (i : Int))
theorem i_sameUp_eq (a b : TUp) : P_i_sameUp a b = some (sameUpB a b, ()) := by
  simp only [P_i_sameUp, B_i_sameUp, P_bytes_Equal, B_bytes_Equal, bindO, sameUpB]
  cases (a.1.toList == b.1.toList) <;> cases decide (a.2.1 = b.2.1) <;> cases (a.2.2.2 == b.2.2.2) <;> rfl
theorem i_same_eq (a b : List TUp) (h : a.length ≤ maxLen) : P_slices_EqualFunc_impl_Up_impl_Up_impl_Up_impl_Up_r1002_173 a b () = some (sameUpsB a b, ()) := by
  simp only [P_slices_EqualFunc_impl_Up_impl_Up_impl_Up_impl_Up_r1002_173, B_slices_EqualFunc_impl_Up_impl_Up_impl_Up_impl_Up_r1002_173, sameUpsB]
  by_cases hl : a.length = b.length
  · rw [dec_true (show (a.length : Int) = (b.length : Int) by omega), dec_true hl]
    simp only [Bool.not_true, cond_false, Bool.true_and]
    refine loopB _ a.length h (fun i => sameUpB (rd kUp a (i : Int)) (rd kUp b (i : Int))) (fun i hi => ?_) (by simp [L_slices_EqualFunc_impl_Up_impl_Up_impl_Up_impl_Up_r1002_173_0])
    have g1 : ((i : Int) < (a.length : Int)) := by omega
    have g2 : (0 : Int) ≤ (i : Int) := by omega
    have g3 : ((i : Int) < (b.length : Int)) := by omega
    simp only [L_slices_EqualFunc_impl_Up_impl_Up_impl_Up_impl_Up_r1002_173_0, dec_true g1, dec_true g2, dec_true g3, cond_true, i_sameUp_eq, bindO]
    cases sameUpB (rd kUp a (i : Int)) (rd kUp b (i : Int)) <;> rfl
  · rw [dec_false (show ¬ (a.length : Int) = (b.length : Int) by omega), dec_false hl]
    rfl
theorem s_same_eq (a b : List TUp) (h : a.length ≤ maxLen) : P_s_l14SameUps a b = some (sameUpsB a b, ()) := by
  simp only [P_s_l14SameUps, B_s_l14SameUps, sameUpsB]
  by_cases hl : a.length = b.length
  · rw [dec_true (show (a.length : Int) = (b.length : Int) by omega), dec_true hl]
    simp only [Bool.not_true, cond_false, Bool.true_and]
    refine loopB _ a.length h (fun i => sameUpB (rd kUp a (i : Int)) (rd kUp b (i : Int))) (fun i hi => ?_) (by simp [L_s_l14SameUps_0])
    have g1 : ((i : Int) < (a.length : Int)) := by omega
    have g2 : (0 : Int) ≤ (i : Int) := by omega
    have g3 : ((i : Int) < (b.length : Int)) := by omega
    simp only [L_s_l14SameUps_0, dec_true g1, dec_true g2, dec_true g3, cond_true, sameUpB]
    cases ((rd kUp a (i : Int)).1.toList == (rd kUp b (i : Int)).1.toList) <;> cases decide ((rd kUp a (i : Int)).2.1 = (rd kUp b (i : Int)).2.1) <;> cases ((rd kUp a (i : Int)).2.2.2 == (rd kUp b (i : Int)).2.2.2) <;> cases ((strOf (rd kUp a (i : Int)).2.2.1).toList == (strOf (rd kUp b (i : Int)).2.2.1).toList) <;> rfl
  · rw [dec_false (show ¬ (a.length : Int) = (b.length : Int) by omega), dec_false hl]
    rfl
/-- A sector with a record that is not older than e. -/
def newer (e : Int) (s : ByteArray) : Bool := (getRec s).2.1 && decide ((getRec s).1.1 ≥ e)
def topOf (t : Int) (s : ByteArray) : Int := bif (getRec s).2.1 then (bif decide ((getRec s).1.1 > t) then (getRec s).1.1 else t) else t
def topL (l : List ByteArray) : Int := l.foldl topOf (-1)
theorem foldl_top (e : Int) : ∀ (l : List ByteArray) (t : Int), decide (l.foldl topOf t < e) = (decide (t < e) && l.all fun s => !newer e s)
  | [], t => (Bool.and_true _).symm
  | s :: l, t => by
    rw [List.foldl_cons, foldl_top e l, List.all_cons]
    unfold topOf newer
    cases (getRec s).2.1 with
    | false => simp
    | true =>
      simp only [cond_true, Bool.true_and]
      by_cases h1 : (getRec s).1.1 > t
      · rw [dec_true h1]
        by_cases h2 : (getRec s).1.1 ≥ e
        · rw [dec_true h2]
          simp only [cond_true]
          rw [dec_false (show ¬ (getRec s).1.1 < e by omega)]
          simp
        · rw [dec_false h2]
          simp only [cond_true]
          rw [dec_true (show (getRec s).1.1 < e by omega), dec_true (show t < e by omega)]
          simp
      · rw [dec_false h1]
        simp only [cond_false]
        by_cases h3 : t < e
        · rw [dec_true h3, dec_false (show ¬ (getRec s).1.1 ≥ e by omega)]
          simp
        · rw [dec_false h3]
          simp
theorem i_topFrom_eq (l : List ByteArray) (h : Secs l) : P_i_topFrom l = some (topL l, ()) := by
  have hl := h.1
  simp only [P_i_topFrom, B_i_topFrom]
  have key := loopO_count (L_i_topFrom_0 P_i_GetRec l) (fun i => ((l.take i).foldl topOf (-1), (i : Int), ())) l.length (topL l, ()) (fun i hi => ?_) ?_
  · simpa using key
  · have g1 : ((i : Int) < (l.length : Int)) := by omega
    have g2 : (0 : Int) ≤ (i : Int) := by omega
    simp only [L_i_topFrom_0, dec_true g1, dec_true g2, cond_true]
    rw [i_GetRec_eq _ (secs_at h hi), w64 (by omega) (by omega)]
    simp only [bindO]
    have e : (l.take (i + 1)).foldl topOf (-1) = topOf ((l.take i).foldl topOf (-1)) (rd .str l (i : Int)) := by
      rw [List.take_succ_eq_append_getElem hi, List.foldl_append, rd_str hi]
      rfl
    rw [e]
    unfold topOf
    cases (getRec (rd .str l (i : Int))).2.1 <;> rfl
  · simp [L_i_topFrom_0, topL]
theorem firstN_all (go : Nat → Bool) (n : Nat) : decide (firstN go 0 n = n) = (List.range n).all go := by
  rw [Bool.eq_iff_iff]
  simp only [decide_eq_true_eq, List.all_eq_true, List.mem_range]
  constructor
  · intro h j hj
    exact firstN_goes go n 0 j (by omega) (by omega)
  · intro h
    exact firstN_uniq go n n (Nat.le_refl _) h (fun h => by omega)
theorem s_tail_eq (st : TStore) (h : Secs st.1.1) (n : Nat) (hn : n ≤ st.1.1.length) : loopO (L_s_StoreOk_0 P_s_GetRec st) ((n : Int), ()) = some ((st.1.1.drop n).all fun s => !newer st.2.1 s, ()) := by
  have hl := h.1
  have key := loopO_first (L_s_StoreOk_0 P_s_GetRec st) (fun j => (((n + j : Nat) : Int), ())) (st.1.1.length - n) (fun j => (decide (j = st.1.1.length - n), ())) (fun j => !newer st.2.1 (rd .str st.1.1 ((n + j : Nat) : Int))) (fun j hj => ?_) ?_
  · have e : loopO (L_s_StoreOk_0 P_s_GetRec st) ((n : Int), ()) = _ := key
    rw [e, firstN_all]
    congr 2
    rw [Bool.eq_iff_iff]
    simp only [List.all_eq_true, List.mem_range]
    constructor
    · intro h2 s hs
      obtain ⟨j, hj, rfl⟩ := List.getElem_of_mem hs
      rw [List.length_drop] at hj
      have := h2 j hj
      rw [rd_str (by omega)] at this
      rw [List.getElem_drop]
      exact this
    · intro h2 j hj
      rw [rd_str (by omega)]
      refine h2 _ ?_
      rw [List.mem_iff_getElem]
      exact ⟨j, by rw [List.length_drop]; omega, by rw [List.getElem_drop]⟩
  · have g1 : (((n + j : Nat) : Int) < (st.1.1.length : Int)) := by omega
    have g2 : (0 : Int) ≤ ((n + j : Nat) : Int) := by omega
    simp only [L_s_StoreOk_0, dec_true g1, dec_true g2, cond_true]
    rw [s_GetRec_eq _ (secs_at h (by omega)), w64 (by omega) (by omega)]
    simp only [bindO, newer]
    rw [dec_false (show ¬ j = st.1.1.length - n by omega)]
    have e2 : n + (j + 1) = (n + j) + 1 := by omega
    simp only [e2, Int.natCast_succ]
    cases (getRec (rd .str st.1.1 ((n + j : Nat) : Int))).2.1 <;> cases decide ((getRec (rd .str st.1.1 ((n + j : Nat) : Int))).1.1 ≥ st.2.1) <;> rfl
  · have g1 : ¬ (((n + (st.1.1.length - n) : Nat) : Int) < (st.1.1.length : Int)) := by omega
    simp only [L_s_StoreOk_0, dec_false g1, cond_false]
    simp
/-- What is known of a store that is right. -/
def StoreG (st : TStore) : Prop := 0 ≤ st.2.1 ∧ st.2.1 ≤ 10000 ∧ st.1.1.length = st.1.2.length ∧ st.1.1.length ≤ 200 ∧ (0 ≤ st.2.2.1 ∧ st.2.2.1 ≤ (st.1.1.length : Int)) ∧ ∃ us, Ups us ∧ sameUpsB us st.2.2.2 = true
theorem storeOk_eq (st : TStore) (h : Secs st.1.1) : ∃ b, P_s_StoreOk st = some (b, ()) ∧ P_i_StoreOk st = some (b, ()) ∧ (b = true → StoreG st) := by
  have hl := h.1
  obtain ⟨bd, hd, hdt⟩ := s_DiskOk_ok st.1 hl
  obtain ⟨l, hs, hi, hll, hrg⟩ := scan_ok st.1 h
  have hfs := s_FoldRecs_eq l (by simp only [maxLen]; omega) hrg
  have hfi := i_FoldRecs_eq l (by simp only [maxLen]; omega) hrg
  have hups : (foldRecs l).2.1 = true → Ups (foldRecs l).1 := by
    intro e
    unfold foldRecs at e ⊢
    split
    · rename_i us' e1
      exact foldAll_ups ups_nil hrg e1
    · rename_i e1
      rw [e1] at e; cases e
  simp only [P_s_StoreOk, B_s_StoreOk, P_i_StoreOk, B_i_StoreOk, diskOk_eq, hd, hs, hi, hfs, hfi, P_i_isEpoch, B_i_isEpoch, l1In_eq, inRange_eq, bindO]
  cases bd with
  | false =>
    by_cases he : 0 ≤ st.2.1 ∧ st.2.1 ≤ 10000
    · rw [dec_true he]
      exact ⟨_, rfl, rfl, fun e => by cases e⟩
    · rw [dec_false he]
      exact ⟨_, rfl, rfl, fun e => by cases e⟩
  | true =>
    cases he' : decide (0 ≤ st.2.1 ∧ st.2.1 ≤ 10000) with
    | false => exact ⟨_, rfl, rfl, fun e => by cases e⟩
    | true =>
      have he := of_decide_eq_true he'
      have hd2 := hdt rfl
      simp only [Bool.not_true, cond_false, bindS]
      generalize hf : foldRecs l = fr at hups
      cases hk : fr.2.1 with
      | false => exact ⟨_, rfl, rfl, fun e => by cases e⟩
      | true =>
        have hu := hups hk
        have hul := hu.2.1
        rw [s_same_eq _ _ (show fr.1.length ≤ maxLen by simp only [maxLen]; omega), i_same_eq _ _ (show fr.1.length ≤ maxLen by simp only [maxLen]; omega)]
        simp only [Bool.not_true, cond_false]
        cases hn' : decide (st.2.2.1 = (List.length l : Int)) with
        | false =>
          cases sameUpsB fr.1 st.2.2.2 <;> exact ⟨_, rfl, rfl, fun e => by cases e⟩
        | true =>
          have hn := of_decide_eq_true hn'
          cases hsm : sameUpsB fr.1 st.2.2.2 with
          | false => exact ⟨_, rfl, rfl, fun e => by cases e⟩
          | true =>
            have hg : StoreG st := ⟨he.1, he.2, hd2.1, hd2.2, by omega, fr.1, hu, hsm⟩
            simp only [Bool.not_true, cond_false]
            rw [hn, s_tail_eq st h l.length hll, dec_true (show (0 : Int) ≤ (List.length l : Int) by omega), dec_true (show (List.length l : Int) ≤ (st.1.1.length : Int) by omega), Int.toNat_natCast, List.take_length]
            simp only [cond_true]
            have hdr : Secs (st.1.1.drop l.length) := ⟨by rw [List.length_drop]; omega, fun s hs => h.2 s (List.mem_of_mem_drop hs)⟩
            rw [i_topFrom_eq _ hdr]
            have htop : decide (st.2.1 > topL (st.1.1.drop l.length)) = ((st.1.1.drop l.length).all fun s => !newer st.2.1 s) := by
              have := foldl_top st.2.1 (st.1.1.drop l.length) (-1)
              rw [dec_true (show (-1 : Int) < st.2.1 by omega), Bool.true_and] at this
              exact this
            simp only [htop]
            by_cases hl0 : (List.length l : Int) > 0
            · rw [dec_true hl0, w64 (n := (List.length l : Int) - 1) (by omega) (by omega), dec_true (show (0 : Int) ≤ (List.length l : Int) - 1 by omega), dec_true (show (List.length l : Int) - 1 < (List.length l : Int) by omega)]
              simp only [cond_true]
              have hlt : decide (st.2.1 < (rd kRec l ((List.length l : Int) - 1)).1) = decide ((rd kRec l ((List.length l : Int) - 1)).1 > st.2.1) := rfl
              rw [hlt]
              cases decide ((rd kRec l ((List.length l : Int) - 1)).1 > st.2.1) with
              | true => exact ⟨_, rfl, rfl, fun e => by cases e⟩
              | false => exact ⟨_, rfl, rfl, fun _ => hg⟩
            · rw [dec_false hl0]
              exact ⟨_, rfl, rfl, fun _ => hg⟩
theorem i_held_step (x : TServer) : L_i_ServerOk_0 P_i_RespOk x = L_s_ServerOk_0 P_s_RespOk x := by
  have e : P_i_RespOk = P_s_RespOk := by funext r; rw [i_RespOk_eq, s_RespOk_eq]
  rw [e]
  rfl
theorem held_ok (x : TServer) (h : x.2.length ≤ 1048576) : ∃ z, loopO (L_s_ServerOk_0 P_s_RespOk x) (0, ()) = some z ∧ (z = .inl () ∨ z = .inr (false, ())) := by
  have key := loopO_first (L_s_ServerOk_0 P_s_RespOk x) (fun i => ((i : Int), ())) x.2.length (fun i => if i < x.2.length then .inr (false, ()) else .inl ()) (fun i => respOkB (rd kHeld x.2 (i : Int)).2) (fun i hi => ?_) ?_
  · refine ⟨_, key, ?_⟩
    split
    · exact .inr rfl
    · exact .inl rfl
  · have g1 : ((i : Int) < (x.2.length : Int)) := by omega
    have g2 : (0 : Int) ≤ (i : Int) := by omega
    simp only [L_s_ServerOk_0, dec_true g1, dec_true g2, cond_true, s_RespOk_eq, bindO, if_pos hi]
    rw [w64 (by omega) (by omega)]
    cases respOkB (rd kHeld x.2 (i : Int)).2 <;> rfl
  · simp [L_s_ServerOk_0]
theorem serverOk_eq (x : TServer) (h : Secs x.1.1.1) (h2 : x.2.length ≤ 1048576) : ∃ b, P_s_ServerOk x = some (b, ()) ∧ P_i_ServerOk x = some (b, ()) ∧ (b = true → P_s_StoreOk x.1 = some (true, ()) ∧ StoreG x.1 ∧ x.2.length ≤ 200) := by
  obtain ⟨z, hz, hz2⟩ := held_ok x h2
  obtain ⟨b, hs, hi, hg⟩ := storeOk_eq x.1 h
  simp only [P_s_ServerOk, B_s_ServerOk, P_i_ServerOk, B_i_ServerOk, i_held_step, hz, hs, hi]
  rcases hz2 with rfl | rfl
  · by_cases hl : (x.2.length : Int) ≤ 200
    · rw [dec_true hl]
      exact ⟨b, rfl, rfl, fun e => ⟨by rw [e], hg e, by omega⟩⟩
    · rw [dec_false hl]
      exact ⟨_, rfl, rfl, fun e => by cases e⟩
  · exact ⟨_, rfl, rfl, fun e => by cases e⟩
theorem sm_secs {N : Nat} {e : Nat} {l : List ByteArray} (hN : N ≤ 1048576) (h : Sm N (.sl e .str) l) : Secs l := ⟨by have : l.length ≤ N := h.1; omega, fun s hs => by have : s.size ≤ N := h.2 s hs; omega⟩

theorem rd_set {k : K} {b : List k.T} {i : Nat} (h : i < b.length) (u : k.T) : rd k (b.set i u) (i : Int) = u := by
  rw [rd_nat (xs := b.set i u) (by simpa using h)]
  simp
/-- What is marked from m on is found again from m on, and takes no more than n marks. -/
def MH {T : Type} (mark : Int → Option (Int × T × Unit)) (held : T → Int → Option (Int × Unit)) (n : Nat) : Prop :=
  ∀ m : Int, 0 ≤ m → m + n < 4611686018427387904 → ∃ m' y, mark m = some (m', y, ()) ∧ m ≤ m' ∧ m' ≤ m + n ∧ held y m = some (m', ())
def cost {T : Type} (c : T → Nat) (a : List T) : Nat := (a.map c).sum
theorem cost_drop {T : Type} (c : T → Nat) {a : List T} {i : Nat} (h : i < a.length) : cost c (a.drop i) = c a[i] + cost c (a.drop (i + 1)) := by
  rw [List.drop_eq_getElem_cons h]
  simp only [cost, List.map_cons, List.sum_cons]
theorem mhS_gen {T : Type} (Lm : Int × Int × List T × Unit → Option ((Int × Int × List T × Unit) ⊕ (Int × List T × Unit))) (Lh : List T → Int × Int × Unit → Option ((Int × Int × Unit) ⊕ (Int × Unit))) (c : T → Nat) (a : List T) (hn : a.length ≤ 1048576)
    (hs : ∀ (i : Nat) (hi : i < a.length) (m : Int), 0 ≤ m → m + c a[i] < 4611686018427387904 → ∃ m' u, m ≤ m' ∧ m' ≤ m + c a[i] ∧ (∀ (b : List T) (hb : b.length = a.length), b[i]'(by omega) = a[i] → Lm (m, (i : Int), b, ()) = some (.inl (m', (i : Int) + 1, b.set i u, ()))) ∧
      ∀ (b : List T) (hb : b.length = a.length), b[i]'(by omega) = u → Lh b (m, (i : Int), ()) = some (.inl (m', (i : Int) + 1, ())))
    (he : ∀ m (b : List T), b.length = a.length → Lm (m, (a.length : Int), b, ()) = some (.inr (m, b, ()))) (hf : ∀ m (b : List T), b.length = a.length → Lh b (m, (a.length : Int), ()) = some (.inr (m, ()))) :
    MH (fun m => loopO Lm (m, 0, a, ())) (fun y m => loopO (Lh y) (m, 0, ())) (cost c a) := by
  have key : ∀ k i, i + k = a.length → ∀ m : Int, 0 ≤ m → m + cost c (a.drop i) < 4611686018427387904 → ∃ m' us, us.length = k ∧ m ≤ m' ∧ m' ≤ m + cost c (a.drop i) ∧
      (∀ pre : List T, pre.length = i → loopO Lm (m, (i : Int), pre ++ a.drop i, ()) = some (m', pre ++ us, ())) ∧ ∀ pre : List T, pre.length = i → loopO (Lh (pre ++ us)) (m, (i : Int), ()) = some (m', ()) := by
    intro k
    induction k with
    | zero =>
      intro i hi m h0 h1
      obtain rfl : i = a.length := by omega
      refine ⟨m, [], rfl, Int.le_refl _, by omega, fun pre hp => ?_, fun pre hp => ?_⟩
      · rw [loopO_eq, he _ _ (by simp [hp])]
        simp
      · rw [loopO_eq, hf _ _ (by simp [hp])]
    | succ k ih =>
      intro i hi m h0 h1
      have hlt : i < a.length := by omega
      rw [cost_drop c hlt] at h1 ⊢
      obtain ⟨m1, u, g1, g2, g3, g4⟩ := hs i hlt m h0 (by omega)
      obtain ⟨m', us, h2, h3, h4, h5, h6⟩ := ih (i + 1) (by omega) m1 (by omega) (by omega)
      have e1 : (i : Int) + 1 = ((i + 1 : Nat) : Int) := by omega
      rw [e1] at g3 g4
      refine ⟨m', u :: us, by simp [h2], by omega, by omega, fun pre hp => ?_, fun pre hp => ?_⟩
      · have hl : (pre ++ a.drop i).length = a.length := by simp [hp]; omega
        have hg : (pre ++ a.drop i)[i]'(by omega) = a[i] := by
          rw [List.getElem_append_right (by omega)]
          simp [hp]
        rw [loopO_eq, g3 _ hl hg]
        have hset : (pre ++ a.drop i).set i u = (pre ++ [u]) ++ a.drop (i + 1) := by
          rw [List.set_append_right _ _ (by omega), hp, Nat.sub_self, List.drop_eq_getElem_cons hlt, List.set_cons_zero]
          simp
        rw [hset]
        have := h5 (pre ++ [u]) (by simp [hp])
        simp only [List.append_assoc, List.singleton_append] at this
        simpa using this
      · have hl : (pre ++ u :: us).length = a.length := by simp [hp, h2]; omega
        have hg : (pre ++ u :: us)[i]'(by omega) = u := by
          rw [List.getElem_append_right (by omega)]
          simp [hp]
        rw [loopO_eq, g4 _ hl hg]
        have := h6 (pre ++ [u]) (by simp [hp])
        simp only [List.append_assoc, List.singleton_append] at this
        exact this
  intro m h0 h1
  obtain ⟨m', us, h2, h3, h4, h5, h6⟩ := key a.length 0 (by omega) m h0 (by simpa using h1)
  exact ⟨m', us, by simpa using h5 [] rfl, h3, by simpa using h4, by simpa using h6 [] rfl⟩
theorem mh_byteS (a : List Int) : MH (P_w_markByteS a) P_w_heldByteS a.length := fun m h0 h1 => ⟨_, _, markByteS_eq a m h0 (by omega), by omega, Int.le_refl _, heldByteS_eq a.length m h0 (by omega)⟩
theorem mh_stringS (a : List ByteArray) : MH (P_w_markStringS a) P_w_heldStringS a.length := fun m h0 h1 => ⟨_, _, markStringS_eq a m h0 h1, by omega, Int.le_refl _, heldStringS_eq a.length m h0 h1⟩
theorem mh_heldS (a : List THeld) (h : a.length ≤ 1048576) : MH (P_w_markHeldS a) P_w_heldHeldS (cost (fun _ => 3) a) := by
  refine mhS_gen L_w_markHeldS_0 L_w_heldHeldS_0 (fun _ => 3) a h (fun i hi m h0 h1 => ?_) (fun m b hb => by simp [L_w_markHeldS_0, hb]) (fun m b hb => by simp [L_w_heldHeldS_0, hb])
  have w1 : IntKind.i64.wrap (m + 1) = m + 1 := w64 (by omega) (by omega)
  have w2 : IntKind.i64.wrap (m + 1 + 1) = m + 1 + 1 := w64 (by omega) (by omega)
  have w3 : IntKind.i64.wrap (m + 1 + 1 + 1) = m + 1 + 1 + 1 := w64 (by omega) (by omega)
  have wi : IntKind.i64.wrap ((i : Int) + 1) = (i : Int) + 1 := w64 (by omega) (by omega)
  have g1 : (0 : Int) ≤ (i : Int) := by omega
  refine ⟨m + 1 + 1 + 1, (m, m + 1, m + 1 + 1), by omega, by omega, fun b hb e => ?_, fun b hb e => ?_⟩
  · have hib : i < b.length := by omega
    have g2 : (i : Int) < (b.length : Int) := by omega
    simp only [L_w_markHeldS_0, bindO, List.length_set, dec_true g1, dec_true g2, cond_true, Int.toNat_natCast, w1, w2, w3, wi, List.set_set, rd_set (k := kHeld) hib]
  · have g2 : (i : Int) < (b.length : Int) := by omega
    have hr : rd kHeld b (i : Int) = (m, m + 1, m + 1 + 1) := by rw [rd_nat (k := kHeld) (xs := b) (by omega)]; exact e
    simp only [L_w_heldHeldS_0, bindO, dec_true g1, dec_true g2, cond_true, w1, w2, w3, wi, hr]
    simp
theorem mh_upS (a : List TUp) (h : a.length ≤ 1048576) : MH (P_w_markUpS a) P_w_heldUpS (cost (fun u => List.length u.2.2.1 + 3) a) := by
  refine mhS_gen (L_w_markUpS_0 P_w_markByteS P_w_markText) (L_w_heldUpS_0 P_w_heldByteS P_w_markText) (fun u => List.length u.2.2.1 + 3) a h (fun i hi m h0 h1 => ?_) (fun m b hb => by simp [L_w_markUpS_0, hb]) (fun m b hb => by simp [L_w_heldUpS_0, hb])
  obtain ⟨m1, d, e1, b1, b2, e2⟩ := mh_byteS a[i].2.2.1 (m + 1 + 1) (by omega) (by omega)
  have w1 : IntKind.i64.wrap (m + 1) = m + 1 := w64 (by omega) (by omega)
  have w2 : IntKind.i64.wrap (m + 1 + 1) = m + 1 + 1 := w64 (by omega) (by omega)
  have w3 : IntKind.i64.wrap (m1 + 1) = m1 + 1 := w64 (by omega) (by omega)
  have wi : IntKind.i64.wrap ((i : Int) + 1) = (i : Int) + 1 := w64 (by omega) (by omega)
  have g1 : (0 : Int) ≤ (i : Int) := by omega
  have ht := markText_eq m (by omega)
  refine ⟨m1 + 1, (mt m, m + 1, d, decide (m1.tmod 3 = 0)), by omega, by omega, fun b hb e => ?_, fun b hb e => ?_⟩
  · have hib : i < b.length := by omega
    have g2 : (i : Int) < (b.length : Int) := by omega
    have hr : rd kUp b (i : Int) = a[i] := by rw [rd_nat (k := kUp) (xs := b) (by omega)]; exact e
    simp only [L_w_markUpS_0, bindO, ht, List.length_set, dec_true g1, dec_true g2, cond_true, Int.toNat_natCast, w1, w2, w3, wi, List.set_set, rd_set (k := kUp) hib, hr, e1]
  · have g2 : (i : Int) < (b.length : Int) := by omega
    have hr : rd kUp b (i : Int) = (mt m, m + 1, d, decide (m1.tmod 3 = 0)) := by rw [rd_nat (k := kUp) (xs := b) (by omega)]; exact e
    simp only [L_w_heldUpS_0, bindO, ht, dec_true g1, dec_true g2, cond_true, w1, w2, w3, wi, hr, e2]
    rw [dec_false (show ¬ m1 < 0 by omega)]
    simp
def nDisk (d : TDisk) : Nat := d.1.length + d.2.length
def nStore (s : TStore) : Nat := nDisk s.1 + cost (fun u : TUp => List.length u.2.2.1 + 3) s.2.2.2
def nServer (s : TServer) : Nat := nStore s.1 + cost (fun _ : THeld => 3) s.2
theorem mh_disk (d : TDisk) : MH (P_w_markDisk d) P_w_heldDisk (nDisk d) := by
  intro m h0 h1
  unfold nDisk at *
  obtain ⟨m1, y1, e1, a1, b1, f1⟩ := mh_stringS d.1 m h0 (by omega)
  obtain ⟨m2, y2, e2, a2, b2, f2⟩ := mh_stringS d.2 m1 (by omega) (by omega)
  refine ⟨m2, (y1, y2), ?_, by omega, by omega, ?_⟩
  · simp only [P_w_markDisk, B_w_markDisk, e1, e2, bindO]
  · simp only [P_w_heldDisk, B_w_heldDisk, f1, f2, bindO]
    rw [dec_false (show ¬ m1 < 0 by omega), dec_false (show ¬ m2 < 0 by omega)]
    rfl
theorem mh_store (s : TStore) (h : s.2.2.2.length ≤ 1048576) (m : Int) (h0 : 0 ≤ m) (h1 : m + nStore s < 4611686018427387904) :
    ∃ m' y1 y2, P_w_markStore s m = some (m', (y1, s.2.1, s.2.2.1, y2), ()) ∧ m ≤ m' ∧ m' ≤ m + nStore s ∧ ∀ a b, P_w_heldStore (y1, a, b, y2) m = some (m', ()) := by
  unfold nStore at *
  obtain ⟨m1, y1, e1, a1, b1, f1⟩ := mh_disk s.1 m h0 (by omega)
  obtain ⟨m2, y2, e2, a2, b2, f2⟩ := mh_upS s.2.2.2 h m1 (by omega) (by omega)
  refine ⟨m2, y1, y2, ?_, by omega, by omega, fun a b => ?_⟩
  · simp only [P_w_markStore, B_w_markStore, e1, e2, bindO]
  · simp only [P_w_heldStore, B_w_heldStore, f1, f2, bindO]
    rw [dec_false (show ¬ m1 < 0 by omega), dec_false (show ¬ m2 < 0 by omega)]
    rfl
theorem mh_server (s : TServer) (h : s.1.2.2.2.length ≤ 1048576) (h' : s.2.length ≤ 1048576) (m : Int) (h0 : 0 ≤ m) (h1 : m + nServer s < 4611686018427387904) :
    ∃ m' y1 y2 y3, P_w_markServer s m = some (m', ((y1, s.1.2.1, s.1.2.2.1, y2), y3), ()) ∧ m ≤ m' ∧ m' ≤ m + nServer s ∧ ∀ a b, P_w_heldServer ((y1, a, b, y2), y3) m = some (m', ()) := by
  unfold nServer at *
  obtain ⟨m1, y1, y2, e1, a1, b1, f1⟩ := mh_store s.1 h m h0 (by omega)
  obtain ⟨m2, y3, e2, a2, b2, f2⟩ := mh_heldS s.2 h' m1 (by omega) (by omega)
  refine ⟨m2, y1, y2, y3, ?_, by omega, by omega, fun a b => ?_⟩
  · simp only [P_w_markServer, B_w_markServer, e1, e2, bindO]
  · simp only [P_w_heldServer, B_w_heldServer, f1, f2, bindO]
    rw [dec_false (show ¬ m1 < 0 by omega), dec_false (show ¬ m2 < 0 by omega)]
    rfl
theorem cost_le {T : Type} (c : T → Nat) (n : Nat) : ∀ (a : List T), (∀ x ∈ a, c x ≤ n) → cost c a ≤ a.length * n
  | [], _ => by simp [cost]
  | x :: a, h => by
    have h1 := cost_le c n a (fun y hy => h y (by simp [hy]))
    have h2 := h x (by simp)
    simp only [cost, List.map_cons, List.sum_cons, List.length_cons] at h1 ⊢
    rw [Nat.add_mul]
    omega

theorem cloneS_eq (a : List ByteArray) (h : a.length ≤ 1048576) : P_slices_Clone_string_string a = some (a, ()) := by
  simp only [P_slices_Clone_string_string, B_slices_Clone_string_string]
  have e : (bif decide (([] : List ByteArray).length + a.length ≤ 9223372036854775807) then bif decide ((([] : List ByteArray).length + a.length) * 16 ≤ 140737488355328) then some (([] ++ a), ()) else none else none) = some (a, ()) := by
    rw [dec_true (by simp; omega), dec_true (by simp; omega)]
    simp
  rw [e]
  cases a with
  | nil => simp [eqO_self]
  | cons x xs => simp
theorem cloneH_eq (a : List THeld) (h : a.length ≤ 1048576) : P_slices_Clone_impl_Held_impl_Held a = some (a, ()) := by
  simp only [P_slices_Clone_impl_Held_impl_Held, B_slices_Clone_impl_Held_impl_Held]
  have e : (bif decide (([] : List THeld).length + a.length ≤ 9223372036854775807) then bif decide ((([] : List THeld).length + a.length) * 24 ≤ 140737488355328) then some (([] ++ a), ()) else none else none) = some (a, ()) := by
    rw [dec_true (by simp; omega), dec_true (by simp; omega)]
    simp
  rw [e]
  cases a with
  | nil => simp [eqO_self]
  | cons x xs => simp
/-- A disk, a store, a server that is not too large. -/
def DiskS (d : TDisk) : Prop := Secs d.1 ∧ Secs d.2
def StoreS (s : TStore) : Prop := DiskS s.1 ∧ List.length s.2.2.2 ≤ 1048576 ∧ ∀ u ∈ s.2.2.2, List.length u.2.2.1 ≤ 2000000000
def ServS (s : TServer) : Prop := StoreS s.1 ∧ List.length s.2 ≤ 1048576
theorem i_copyDisk_eq (d : TDisk) (h : DiskS d) : P_i_copyDisk d = some (d, ()) := by
  simp only [P_i_copyDisk, B_i_copyDisk, cloneS_eq _ h.1.1, cloneS_eq _ h.2.1, bindO]
theorem s_copyDisk_eq (d : TDisk) (h : DiskS d) : P_s_l12Copy d = some (d, ()) := by
  have h1 := h.1.1
  have h2 := h.2.1
  simp only [P_s_l12Copy, B_s_l12Copy]
  rw [dec_true (by simp; omega), dec_true (by simp; omega), dec_true (by simp; omega), dec_true (by simp; omega)]
  simp
theorem i_copyUp_eq (u : TUp) (h : List.length u.2.2.1 ≤ 2000000000) : P_i_copyUp u = some (u, ()) := by
  simp only [P_i_copyUp, B_i_copyUp, clone_byte_eq _ (show List.length u.2.2.1 ≤ 140737488355328 by omega), bindO]
theorem i_copyStore_eq (s : TStore) (h : StoreS s) : P_i_copyStore s = some (s, ()) := by
  simp only [P_i_copyStore, B_i_copyStore, i_copyDisk_eq _ h.1, bindO]
  have hl := h.2.1
  have key := loopO_count (L_i_copyStore_0 P_i_copyUp s) (fun i => ((i : Int), s.2.1, s.2.2.1, s.1.1, s.1.2, s.2.2.2.take i, ())) s.2.2.2.length (s, ()) (fun i hi => ?_) ?_
  · simpa using key
  · have g1 : ((i : Int) < (s.2.2.2.length : Int)) := by omega
    have g2 : (0 : Int) ≤ (i : Int) := by omega
    simp only [L_i_copyStore_0, dec_true g1, dec_true g2, cond_true]
    rw [rd_nat (k := kUp) (xs := s.2.2.2) hi, i_copyUp_eq _ (h.2.2 _ (List.getElem_mem hi))]
    simp only [bindO]
    rw [dec_true (by simp; omega), dec_true (by simp; omega), w64 (by omega) (by omega), List.take_succ_eq_append_getElem hi]
    rfl
  · simp [L_i_copyStore_0]
theorem s_copyStore_eq (s : TStore) (h : StoreS s) : P_s_l14Copy s = some (s, ()) := by
  simp only [P_s_l14Copy, B_s_l14Copy, s_copyDisk_eq _ h.1, copyUps_eq _ h.2.1 h.2.2, bindO]
theorem i_copyServer_eq (s : TServer) (h : ServS s) : P_i_copyServer s = some (s, ()) := by
  simp only [P_i_copyServer, B_i_copyServer, i_copyStore_eq _ h.1, cloneH_eq _ h.2, bindO]
theorem s_copyServer_eq (s : TServer) (h : ServS s) : P_s_l15Copy s = some (s, ()) := by
  have h2 := h.2
  simp only [P_s_l15Copy, B_s_l15Copy, s_copyStore_eq _ h.1, bindO]
  rw [dec_true (by simp; omega), dec_true (by simp; omega)]
  simp
theorem secs_set {l : List ByteArray} (h : Secs l) (i : Nat) {s : ByteArray} (hs : s.size ≤ 1048576) : Secs (l.set i s) := ⟨by rw [List.length_set]; exact h.1, fun x hx => (List.mem_or_eq_of_mem_set hx).elim (h.2 x) (fun e => by rw [e]; exact hs)⟩

def reqMost (op : Int) : Int := if op = 1 then 1000000000 else if op = 3 then 1000000000 else if op = 4 then 4294967295 else 0
def reqOkB (r : TReq) : Bool := decide (1 ≤ r.1 ∧ r.1 ≤ 6) && idB r.2.1 && decide (0 ≤ r.2.2 ∧ r.2.2 ≤ reqMost r.1)
theorem s_ReqOk_eq (r : TReq) (h : r.2.1.size ≤ maxLen) : P_s_ReqOk r = some (reqOkB r, ()) := by
  simp only [P_s_ReqOk, B_s_ReqOk, l1In_eq, l11Id_eq _ h, bindO, reqOkB, P_s_l11Most, B_s_l11Most, reqMost]
  cases decide (1 ≤ r.1 ∧ r.1 ≤ 6)
  · rfl
  cases idB r.2.1
  · rfl
  simp only [Bool.not_true, cond_false, bindS, Bool.true_and]
  have hz : decide (0 ≤ r.2.2 ∧ r.2.2 ≤ 0) = decide (r.2.2 = 0) := by
    by_cases h0 : r.2.2 = 0
    · rw [dec_true h0, dec_true (by omega)]
    · rw [dec_false h0, dec_false (by omega)]
  by_cases h1 : r.1 = 1
  · simp [h1]
  by_cases h3 : r.1 = 3
  · simp [h3]
  by_cases h4 : r.1 = 4
  · simp [h4]
  simp [h1, h3, h4]
  rw [Bool.eq_iff_iff]
  simp
  omega
theorem i_ReqOk_eq (r : TReq) (h : r.2.1.size ≤ maxLen) : P_i_ReqOk r = some (reqOkB r, ()) := by
  simp only [P_i_ReqOk, B_i_ReqOk, inRange_eq, idOk_eq _ h, bindO, reqOkB, P_i_numberField, B_i_numberField, reqMost]
  by_cases h1 : r.1 = 1
  · simp [h1]; cases idB r.2.1 <;> simp
  by_cases h3 : r.1 = 3
  · simp [h3]; cases idB r.2.1 <;> simp
  by_cases h4 : r.1 = 4
  · simp [h4]; cases idB r.2.1 <;> simp
  simp only [dec_false h1, dec_false h3, dec_false h4, if_neg h1, if_neg h3, if_neg h4, cond_false]
  cases decide (1 ≤ r.1 ∧ r.1 ≤ 6) <;> cases idB r.2.1 <;> simp

theorem sm_disk {N e1 e2 : Nat} {d : TDisk} (hN : N ≤ 1048576) (h : Sm N (.pair (.sl e1 .str) (.sl e2 .str)) d) : DiskS d := ⟨sm_secs hN (Sm.l h), sm_secs hN (Sm.r h)⟩
theorem sm_store {N : Nat} {s : TStore} (hN : N ≤ 1048576) (h : Sm N kStorex s) : StoreS s := ⟨sm_disk hN (Sm.l h), by
    have h1 : List.length s.2.2.2 ≤ N := (Sm.r (Sm.r (Sm.r h))).1
    omega, fun u hu => by
    have h1 : Sm N kUp u := (Sm.r (Sm.r (Sm.r h))).2 u hu
    have h2 : List.length u.2.2.1 ≤ N := (Sm.l (Sm.r (Sm.r h1))).1
    omega⟩
theorem sm_serv {N : Nat} {s : TServer} (hN : N ≤ 1048576) (h : Sm N kServerx s) : ServS s := ⟨sm_store hN (Sm.l h), by
    have h1 : List.length s.2 ≤ N := (Sm.r h).1
    omega⟩
theorem sm_mono {N M : Nat} (h : N ≤ M) : ∀ {k : K} {x : k.T}, Sm N k x → Sm M k x
  | .int _, _, _ => trivial
  | .bool, _, _ => trivial
  | .fnc _, _, _ => trivial
  | .str, _, g => Nat.le_trans g h
  | .sl _ _, _, g => ⟨Nat.le_trans g.1 h, fun x hx => sm_mono h (g.2 x hx)⟩
  | .rs _ _, _, g => ⟨Nat.le_trans g.1 h, fun x hx => sm_mono h (g.2 x hx)⟩
  | .pair _ _, _, g => ⟨sm_mono h g.1, sm_mono h g.2⟩
theorem secs_sm {N e : Nat} {l : List ByteArray} (hN : 1048576 ≤ N) (h : Secs l) : Sm N (.sl e .str) l := ⟨by have := h.1; exact Nat.le_trans this hN, fun s hs => by have := h.2 s hs; exact Nat.le_trans this hN⟩
theorem ups_sm {N e : Nat} {us : List TUp} (hN : 2000000000 ≤ N) (h : Ups us) : Sm N (.sl e kUp) us := by
  have hl := h.2.1
  refine ⟨by show us.length ≤ N; omega, fun u hu => ?_⟩
  have hu2 := h.2.2 u hu
  have h1 := ups_dat h u hu
  refine ⟨?_, trivial, ⟨?_, fun y hy => trivial⟩, trivial⟩
  · show u.1.size ≤ N
    have := hu2.2.2.1
    omega
  · show List.length u.2.2.1 ≤ N
    omega

theorem strOf_inj {a b : List Int} (ha : Byt a) (hb : Byt b) (h : (strOf a).toList = (strOf b).toList) : a = b := by
  rw [ByteArray.toList_eq, ByteArray.toList_eq] at h
  have h2 : (a.map fun n => UInt8.ofNat n.toNat) = b.map fun n => UInt8.ofNat n.toNat := h
  have hl : a.length = b.length := by simpa using congrArg List.length h2
  refine List.ext_getElem hl fun i h1 h3 => ?_
  have h4 := congrArg (fun l => l[i]?) h2
  simp only [List.getElem?_map, List.getElem?_eq_getElem h1, List.getElem?_eq_getElem h3, Option.map_some, Option.some.injEq] at h4
  exact u8_inj (ha _ (List.getElem_mem h1)) (hb _ (List.getElem_mem h3)) h4
theorem str_inj {a b : ByteArray} (h : a.toList = b.toList) : a = b := by
  rw [ByteArray.toList_eq, ByteArray.toList_eq] at h
  obtain ⟨⟨a⟩⟩ := a
  obtain ⟨⟨b⟩⟩ := b
  have h : a = b := h
  rw [h]
theorem sameUp_eq {a b : TUp} (ha : Byt a.2.2.1) (hb : Byt b.2.2.1) (h : sameUpB a b = true) : a = b := by
  simp only [sameUpB, Bool.and_eq_true, beq_iff_eq, decide_eq_true_eq] at h
  obtain ⟨⟨⟨h1, h2⟩, h3⟩, h4⟩ := h
  obtain ⟨a1, a2, a3, a4⟩ := a
  obtain ⟨b1, b2, b3, b4⟩ := b
  simp only at h1 h2 h3 h4 ha hb
  rw [str_inj h1, h2, h3, strOf_inj ha hb h4]
theorem sameUps_eq {a b : List TUp} (ha : ∀ u ∈ a, Byt u.2.2.1) (hb : ∀ u ∈ b, Byt u.2.2.1) (h : sameUpsB a b = true) : a = b := by
  simp only [sameUpsB, Bool.and_eq_true, decide_eq_true_eq, List.all_eq_true, List.mem_range] at h
  refine List.ext_getElem h.1 fun i h1 h3 => ?_
  have h4 := h.2 i h1
  rw [rd_nat (k := kUp) (xs := a) h1, rd_nat (k := kUp) (xs := b) h3] at h4
  exact sameUp_eq (ha _ (List.getElem_mem h1)) (hb _ (List.getElem_mem h3)) h4
theorem storeG_ups {st : TStore} (h : StoreG st) (hb : ∀ u ∈ st.2.2.2, Byt u.2.2.1) : Ups st.2.2.2 := by
  obtain ⟨_, _, _, _, _, us, hu, hs⟩ := h
  rw [← sameUps_eq (fun u hu' => (hu.2.2 u hu').2.2.2) hb hs]
  exact hu
/-- A store with one record more. -/
def wrote (st : TStore) (r : TRec) (us : List TUp) : TStore := ((st.1.1.set st.2.2.1.toNat (putRec r), st.1.2), st.2.1, st.2.2.1 + 1, us)
theorem s_write_eq (st : TStore) (a b kind : Int) (id : ByteArray) (n : Int) (data : List Int) (hU : Ups st.2.2.2) (hr : recOkB (st.2.1, st.2.2.1, kind, id, n, data) = true) (hb : Byt data) (h0 : 0 ≤ st.2.2.1) (h1 : st.2.2.1 < (st.1.1.length : Int)) (hl : st.1.1.length ≤ 1048576)
    (us : List TUp) (hf : foldOne st.2.2.2 (st.2.1, st.2.2.1, kind, id, n, data) = some us) : P_s_l14Write_r0_4 st (a, b, kind, id, n, data) = some (wrote st (st.2.1, st.2.2.1, kind, id, n, data) us, ()) := by
  have hbd := recOk_bnd hr
  simp only at hbd
  simp only [P_s_l14Write_r0_4, B_s_l14Write_r0_4]
  rw [s_l13Put_eq (st.2.1, st.2.2.1, kind, id, n, data) (by simp only; omega) (by simp only; omega) hb, dec_true h0, dec_true h1]
  simp only [bindO, cond_true]
  obtain ⟨x, hx, hx2⟩ := s_one_eq st.2.2.2 (st.2.1, st.2.2.1, kind, id, n, data) hU (by simp only; omega)
  have hI : foldI st.2.2.2 (st.2.1, st.2.2.1, kind, id, n, data) = (us, true, ()) := by unfold foldI; rw [hf]
  rw [hI] at hx hx2
  rw [hx, hx2 rfl, w64 (by omega) (by omega)]
  rfl
theorem i_write_eq (st : TStore) (kind : Int) (id : ByteArray) (n : Int) (data : List Int) (hU : Ups st.2.2.2) (hr : recOkB (st.2.1, st.2.2.1, kind, id, n, data) = true) (hb : Byt data) (h0 : 0 ≤ st.2.2.1) (h1 : st.2.2.1 < (st.1.1.length : Int)) (hl : st.1.1.length ≤ 1048576)
    (us : List TUp) (hf : foldOne st.2.2.2 (st.2.1, st.2.2.1, kind, id, n, data) = some us) : P_i_Store_write_r97_0 st kind id n data = some (wrote st (st.2.1, st.2.2.1, kind, id, n, data) us, ()) := by
  have hbd := recOk_bnd hr
  simp only at hbd
  simp only [P_i_Store_write_r97_0, B_i_Store_write_r97_0]
  rw [i_PutRec_eq (st.2.1, st.2.2.1, kind, id, n, data) (by simp only [maxLen]; omega) hb, if_pos hr, dec_true h0, dec_true h1]
  simp only [bindO, cond_true]
  have hI : foldI st.2.2.2 (st.2.1, st.2.2.1, kind, id, n, data) = (us, true, ()) := by unfold foldI; rw [hf]
  rw [i_fold_eq st.2.2.2 (st.2.1, st.2.2.1, kind, id, n, data) hU (by simp only; omega), hI, w64 (by omega) (by omega)]
  rfl
theorem putRec_size {r : TRec} (h : recOkB r = true) : (putRec r).size ≤ 1000 := by
  have hb := recOk_bnd h
  unfold putRec
  rw [strOf_size, List.length_append, recB_len, big_len]
  omega
theorem wrote_disk {st : TStore} (h : DiskS st.1) {r : TRec} (hr : recOkB r = true) (us : List TUp) : DiskS (wrote st r us).1 := ⟨secs_set h.1 _ (by have := putRec_size hr; omega), h.2⟩
theorem i_find_eq (us : List TUp) (id : ByteArray) (h : us.length ≤ maxLen) : P_i_Store_find us id = some (if upHas us id = true then (upIns us id : Int) else -1) := by
  simp only [P_i_Store_find, i_upAt_eq us id h, bindO]
  cases upHas us id <;> rfl
theorem s_at_eq (us : List TUp) (id : ByteArray) (h : Ups us) : P_s_l14At us id = some (if upHas us id = true then (upIns us id : Int) else -1, ()) := by
  have hl := h.2.1
  rw [l14At_eq us id (by simp only [maxLen]; omega)]
  cases hh : upHas us id with
  | true =>
    obtain ⟨hlt, _⟩ := upHas_iff.1 hh
    rw [upIx_has h.1 hh, if_pos hlt, if_pos rfl]
  | false => rw [upIx_not h.1 hh, if_neg (Nat.lt_irrefl _), if_neg (by simp)]
theorem i_left_eq (st : TStore) (h0 : 0 ≤ st.2.2.1) (h1 : st.2.2.1 ≤ (st.1.1.length : Int)) (hl : st.1.1.length ≤ 1048576) : P_i_Store_left st = some ((st.1.1.length : Int) - st.2.2.1, st, ()) := by
  simp only [P_i_Store_left, B_i_Store_left]
  rw [w64 (by omega) (by omega)]
theorem s_left_eq (st : TStore) (h0 : 0 ≤ st.2.2.1) (h1 : st.2.2.1 ≤ (st.1.1.length : Int)) (hl : st.1.1.length ≤ 1048576) : P_s_l14Left st = some ((st.1.1.length : Int) - st.2.2.1, ()) := by
  simp only [P_s_l14Left, B_s_l14Left]
  rw [w64 (by omega) (by omega)]

theorem bO {α β : Type} (x : α) (f : α → Option β) : bindO (some x) f = f x := rfl

/-- An upload changed in place stays in its place. -/
theorem upIns_set {us : List TUp} {id : ByteArray} (hh : upHas us id = true) (u : TUp) (hu : u.1 = (rd kUp us (upIns us id : Int)).1) : upHas (us.set (upIns us id) u) id = true ∧ upIns (us.set (upIns us id) u) id = upIns us id ∧ rd kUp (us.set (upIns us id) u) (upIns us id : Int) = u := by
  obtain ⟨hlt, hid⟩ := upHas_iff.1 hh
  rw [rd_nat (k := kUp) (xs := us) hlt] at hu
  have hk : ∀ q (hq : q < us.length), ((us.set (upIns us id) u)[q]'(by simpa using hq)).1 = us[q].1 := fun q hq => by
    rw [List.getElem_set]
    split
    · rename_i e; subst e; exact hu
    · rfl
  have hrd : rd kUp (us.set (upIns us id) u) (upIns us id : Int) = u := rd_set (k := kUp) hlt u
  have e1 : upIns (us.set (upIns us id) u) id = upIns us id := by
    refine firstN_uniq _ (us.set (upIns us id) u).length _ (by simp; omega) (fun j hj => ?_) (fun _ => ?_)
    · rw [rd_nat (k := kUp) (xs := us.set (upIns us id) u) (by simp; omega), hk j (by omega)]
      exact upIns_lo hj
    · rw [hrd, hu]
      exact upIns_at hlt
  refine ⟨?_, e1, hrd⟩
  unfold upHas
  rw [e1, hrd, hu, hid]
  simp
  omega

def catUp (us : List TUp) (id : ByteArray) (ch : List Int) : List TUp :=
  us.set (upIns us id) ((rd kUp us (upIns us id : Int)).1, (rd kUp us (upIns us id : Int)).2.1, (rd kUp us (upIns us id : Int)).2.2.1 ++ ch, (rd kUp us (upIns us id : Int)).2.2.2)
def putOne (st : TStore) (id : ByteArray) (n : Int) (ch : List Int) : TStore := wrote st (st.2.1, st.2.2.1, 2, id, n, ch) (catUp st.2.2.2 id ch)
/-- The store behind the first pieces. -/
def putAt (st : TStore) (id : ByteArray) (off : Int) (dat : List Int) : Nat → TStore
  | 0 => st
  | j + 1 => putOne (putAt st id off dat j) id (off + ((j * 24 : Nat) : Int)) (pieceL 24 dat j)
def nPc (dat : List Int) : Nat := (dat.length + 24 - 1) / 24
structure PutC (st : TStore) (id : ByteArray) (off : Int) (dat : List Int) : Prop where
  idok : idB id = true
  ep : 0 ≤ st.2.1 ∧ st.2.1 ≤ 10000
  nx : 0 ≤ st.2.2.1 ∧ st.2.2.1 + (nPc dat : Int) ≤ (st.1.1.length : Int)
  len : st.1.1.length ≤ 200
  dk : DiskS st.1
  up : Ups st.2.2.2
  has : upHas st.2.2.2 id = true
  nd : (rd kUp st.2.2.2 (upIns st.2.2.2 id : Int)).2.2.2 = false
  at' : off = (List.length (rd kUp st.2.2.2 (upIns st.2.2.2 id : Int)).2.2.1 : Int)
  fits : off + (dat.length : Int) ≤ (rd kUp st.2.2.2 (upIns st.2.2.2 id : Int)).2.1
  byt : Byt dat
  lo : 1 ≤ dat.length
structure PutI (st : TStore) (id : ByteArray) (off : Int) (dat : List Int) (j : Nat) (s : TStore) : Prop where
  ep : s.2.1 = st.2.1
  nx : s.2.2.1 = st.2.2.1 + (j : Int)
  len : s.1.1.length = st.1.1.length
  dk : DiskS s.1
  up : Ups s.2.2.2
  has : upHas s.2.2.2 id = true
  ix : upIns s.2.2.2 id = upIns st.2.2.2 id
  val : rd kUp s.2.2.2 (upIns s.2.2.2 id : Int) = ((rd kUp st.2.2.2 (upIns st.2.2.2 id : Int)).1, (rd kUp st.2.2.2 (upIns st.2.2.2 id : Int)).2.1, (rd kUp st.2.2.2 (upIns st.2.2.2 id : Int)).2.2.1 ++ dat.take (j * 24), false)
theorem pieceL_len (dat : List Int) (j : Nat) (h : j * 24 < dat.length) : 1 ≤ (pieceL 24 dat j).length ∧ (pieceL 24 dat j).length ≤ 24 ∧ (pieceL 24 dat j).length = min (j * 24 + 24) dat.length - j * 24 := by
  have e : (pieceL 24 dat j).length = min (j * 24 + 24) dat.length - j * 24 := by unfold pieceL; rw [List.length_drop, List.length_take]
  rw [e]
  refine ⟨by omega, by omega, rfl⟩
theorem pieceL_next (dat : List Int) (j : Nat) : dat.take (j * 24) ++ pieceL 24 dat j = dat.take ((j + 1) * 24) := by
  have h := List.take_append_drop (j * 24) (dat.take (j * 24 + 24))
  rw [List.take_take, Nat.min_eq_left (by omega)] at h
  rw [show (j + 1) * 24 = j * 24 + 24 by omega]
  exact h
theorem nPc_lt {dat : List Int} {j : Nat} : j < nPc dat ↔ j * 24 < dat.length := by
  unfold nPc
  omega
theorem put_step {st : TStore} {id : ByteArray} {off : Int} {dat : List Int} (hc : PutC st id off dat) {j : Nat} {s : TStore} (h : PutI st id off dat j s) (hj : j < nPc dat) :
    recOkB (s.2.1, s.2.2.1, 2, id, off + ((j * 24 : Nat) : Int), pieceL 24 dat j) = true ∧ foldOne s.2.2.2 (s.2.1, s.2.2.1, 2, id, off + ((j * 24 : Nat) : Int), pieceL 24 dat j) = some (catUp s.2.2.2 id (pieceL 24 dat j)) ∧
      PutI st id off dat (j + 1) (putOne s id (off + ((j * 24 : Nat) : Int)) (pieceL 24 dat j)) := by
  obtain ⟨p1, p2, p3⟩ := pieceL_len dat j (nPc_lt.1 hj)
  have hj2 := nPc_lt.1 hj
  have hlen0 : (List.length (dat.take (j * 24)) : Int) = ((j * 24 : Nat) : Int) := by rw [List.length_take]; omega
  obtain ⟨hlt, _⟩ := upHas_iff.1 hc.has
  have hu := hc.up.2.2 _ (List.getElem_mem hlt)
  rw [← rd_nat (k := kUp) hlt] at hu
  have hu1 := hu.1
  have hu2 := hu.2.1
  have hat := hc.at'
  have hft := hc.fits
  have hn1 := hc.nx.1
  have hn2 := hc.nx.2
  have hl := hc.len
  have hnx := h.nx
  have hbp : Byt (pieceL 24 dat j) := byt_drop (byt_take hc.byt _) _
  have hr : recOkB (s.2.1, s.2.2.1, 2, id, off + ((j * 24 : Nat) : Int), pieceL 24 dat j) = true := by
    simp only [recOkB, hc.idok, h.ep]
    rw [dec_true hc.ep, dec_true (show 0 ≤ s.2.2.1 ∧ s.2.2.1 ≤ 199 by omega), if_neg (by omega), if_pos trivial, dec_true (show 0 ≤ off + ((j * 24 : Nat) : Int) ∧ off + ((j * 24 : Nat) : Int) ≤ 1000000000 by omega), dec_true (show 1 ≤ (List.length (pieceL 24 dat j) : Int) ∧ (List.length (pieceL 24 dat j) : Int) ≤ 24 by omega)]
    rfl
  have hf : foldOne s.2.2.2 (s.2.1, s.2.2.1, 2, id, off + ((j * 24 : Nat) : Int), pieceL 24 dat j) = some (catUp s.2.2.2 id (pieceL 24 dat j)) := by
    have e1 : (List.length (rd kUp s.2.2.2 (upIns s.2.2.2 id : Int)).2.2.1 : Int) = off + ((j * 24 : Nat) : Int) := by
      rw [h.val]; simp only [List.length_append]; omega
    have e2 : (rd kUp s.2.2.2 (upIns s.2.2.2 id : Int)).2.2.2 = false := by rw [h.val]
    have e3 : @Eq Int (rd kUp s.2.2.2 (upIns s.2.2.2 id : Int)).2.1 (rd kUp st.2.2.2 (upIns st.2.2.2 id : Int)).2.1 := by rw [h.val]
    simp only [foldOne, h.has, e2, catUp]
    rw [if_neg (by omega), if_neg (by simp), if_pos trivial, if_neg (fun hx => by
      rcases hx with hx | hx | hx
      · cases hx
      · exact hx e1.symm
      · have hx2 : (List.length (rd kUp s.2.2.2 (upIns s.2.2.2 id : Int)).2.2.1 : Int) + (List.length (pieceL 24 dat j) : Int) > (rd kUp st.2.2.2 (upIns st.2.2.2 id : Int)).2.1 := by rw [← e3]; exact hx
        omega)]
  have hus := foldOne_ups h.up ⟨hr, hbp⟩ hf
  obtain ⟨k1, k2, k3⟩ := upIns_set h.has ((rd kUp s.2.2.2 (upIns s.2.2.2 id : Int)).1, (rd kUp s.2.2.2 (upIns s.2.2.2 id : Int)).2.1, (rd kUp s.2.2.2 (upIns s.2.2.2 id : Int)).2.2.1 ++ pieceL 24 dat j, (rd kUp s.2.2.2 (upIns s.2.2.2 id : Int)).2.2.2) rfl
  refine ⟨hr, hf, h.ep, ?_, ?_, wrote_disk h.dk hr _, hus, k1, k2.trans h.ix, ?_⟩
  · show s.2.2.1 + 1 = st.2.2.1 + ((j + 1 : Nat) : Int)
    omega
  · show (s.1.1.set _ _).length = _
    rw [List.length_set]; exact h.len
  · show rd kUp (s.2.2.2.set (upIns s.2.2.2 id) _) ((upIns (s.2.2.2.set (upIns s.2.2.2 id) _) id : Nat) : Int) = _
    rw [k2, k3, h.val]
    simp only [List.append_assoc, pieceL_next]
theorem putI_0 {st : TStore} {id : ByteArray} {off : Int} {dat : List Int} (hc : PutC st id off dat) : PutI st id off dat 0 st :=
  ⟨rfl, by simp, rfl, hc.dk, hc.up, hc.has, rfl, by
    have e2 : (rd kUp st.2.2.2 (upIns st.2.2.2 id : Int)).2.2.2 = false := hc.nd
    rw [Nat.zero_mul, List.take_zero, List.append_nil, ← e2]⟩
theorem putI_at {st : TStore} {id : ByteArray} {off : Int} {dat : List Int} (hc : PutC st id off dat) : ∀ j, j ≤ nPc dat → PutI st id off dat j (putAt st id off dat j)
  | 0, _ => putI_0 hc
  | j + 1, hj => (put_step hc (putI_at hc j (by omega)) (by omega)).2.2
theorem i_put_fold {st : TStore} {id : ByteArray} {off : Int} {dat : List Int} (hc : PutC st id off dat) : ∀ (k j : Nat), j + k = nPc dat → ∀ o : Int, (j < nPc dat → o = off + ((j * 24 : Nat) : Int)) →
    ∃ o', foldP (L_i_Store_putUp_0 P_i_Store_write_r97_0 id) ((pieces 24 dat).drop j) (o, (putAt st id off dat j).2.1, (putAt st id off dat j).2.2.1, (putAt st id off dat j).1.1, (putAt st id off dat j).1.2, (putAt st id off dat j).2.2.2, ()) =
      some (o', (putAt st id off dat (nPc dat)).2.1, (putAt st id off dat (nPc dat)).2.2.1, (putAt st id off dat (nPc dat)).1.1, (putAt st id off dat (nPc dat)).1.2, (putAt st id off dat (nPc dat)).2.2.2, ())
  | 0, j, hj, o, _ => by
    rw [Nat.add_zero] at hj
    subst hj
    have : (pieces 24 dat).length = nPc dat := by simp [pieces, nPc]
    rw [← this, List.drop_length]
    exact ⟨o, rfl⟩
  | k + 1, j, hj, o, ho => by
    have hlt : j < nPc dat := by omega
    have hlen : (pieces 24 dat).length = nPc dat := by simp [pieces, nPc]
    have hdrop : (pieces 24 dat).drop j = pieceL 24 dat j :: (pieces 24 dat).drop (j + 1) := by
      rw [List.drop_eq_getElem_cons (by omega)]; simp [pieces]
    have ho := ho hlt
    have hI := putI_at hc j (by omega)
    obtain ⟨hr, hf, hn⟩ := put_step hc hI hlt
    have hl := hc.len
    have hn1 := hc.nx.1
    have hn2 := hc.nx.2
    have hnx := hI.nx
    have hle := hI.len
    obtain ⟨hlt', _⟩ := upHas_iff.1 hc.has
    have hu := hc.up.2.2 _ (List.getElem_mem hlt')
    rw [← rd_nat (k := kUp) hlt'] at hu
    have hu2 := hu.2.1
    have hat := hc.at'
    have hft := hc.fits
    obtain ⟨p1, p2, p3⟩ := pieceL_len dat j (nPc_lt.1 hlt)
    have hj2 := nPc_lt.1 hlt
    have hw := i_write_eq (putAt st id off dat j) 2 id (off + ((j * 24 : Nat) : Int)) (pieceL 24 dat j) hI.up hr (byt_drop (byt_take hc.byt _) _) (by omega) (by omega) (by omega) _ hf
    rw [hdrop]
    simp only [foldP, L_i_Store_putUp_0]
    have hw' : P_i_Store_write_r97_0 (((putAt st id off dat j).1.1, (putAt st id off dat j).1.2), ((putAt st id off dat j).2.1, ((putAt st id off dat j).2.2.1, (putAt st id off dat j).2.2.2))) 2 id o (pieceL 24 dat j) = some (putAt st id off dat (j + 1), ()) := by
      rw [ho]; exact hw
    rw [hw', w64 (by omega) (by omega)]
    simp only [bindO]
    exact i_put_fold hc k (j + 1) (by omega) _ (fun hl2 => by have := nPc_lt.1 hl2; omega)
theorem s_put_loop {st : TStore} {id : ByteArray} {off : Int} {dat : List Int} (hc : PutC st id off dat) (h400 : dat.length ≤ 400) :
    loopO (L_s_PutUp_r99_0_0 P_s_l14Write_r0_4 dat id off) (0, st.2.1, st.2.2.1, st.2.2.2, st.1.1, st.1.2, ()) =
      some ((putAt st id off dat (nPc dat)).2.1, (putAt st id off dat (nPc dat)).2.2.1, (putAt st id off dat (nPc dat)).2.2.2, (putAt st id off dat (nPc dat)).1.1, (putAt st id off dat (nPc dat)).1.2, ()) := by
  obtain ⟨z, e, hz⟩ := loopO_ind (L_s_PutUp_r99_0_0 P_s_l14Write_r0_4 dat id off) (fun l => ((dat.length : Int) + 24 - l.1).toNat)
    (fun l => ∃ j : Nat, j ≤ nPc dat ∧ l = (((j * 24 : Nat) : Int), (putAt st id off dat j).2.1, (putAt st id off dat j).2.2.1, (putAt st id off dat j).2.2.2, (putAt st id off dat j).1.1, (putAt st id off dat j).1.2, ()))
    (fun z => z = ((putAt st id off dat (nPc dat)).2.1, (putAt st id off dat (nPc dat)).2.2.1, (putAt st id off dat (nPc dat)).2.2.2, (putAt st id off dat (nPc dat)).1.1, (putAt st id off dat (nPc dat)).1.2, ())) (fun l hl => by
      obtain ⟨j, hj, rfl⟩ := hl
      have hI := putI_at hc j hj
      have hl := hc.len
      have hn1 := hc.nx.1
      have hn2 := hc.nx.2
      have hnx := hI.nx
      have hle := hI.len
      obtain ⟨hlt', _⟩ := upHas_iff.1 hc.has
      have hu := hc.up.2.2 _ (List.getElem_mem hlt')
      rw [← rd_nat (k := kUp) hlt'] at hu
      have hu2 := hu.2.1
      have hat := hc.at'
      have hft := hc.fits
      simp only [L_s_PutUp_r99_0_0]
      by_cases hi : j < nPc dat
      · have hj2 := nPc_lt.1 hi
        obtain ⟨hr, hf, hn⟩ := put_step hc hI hi
        obtain ⟨p1, p2, p3⟩ := pieceL_len dat j hj2
        rw [dec_true (show ((j * 24 : Nat) : Int) < (dat.length : Int) by omega), w64 (n := ((j * 24 : Nat) : Int) + 24) (by omega) (by omega)]
        obtain ⟨to, hto, hto2⟩ : ∃ to : Int, (bif decide (((j * 24 : Nat) : Int) + 24 > (dat.length : Int)) then some ((dat.length : Int), ()) else some (((j * 24 : Nat) : Int) + 24, ())) = some (to, ()) ∧ (to.toNat = min (j * 24 + 24) dat.length ∧ 0 ≤ to) := by
          by_cases hcc : ((j * 24 : Nat) : Int) + 24 > (dat.length : Int)
          · rw [dec_true hcc]; exact ⟨_, rfl, by omega, by omega⟩
          · rw [dec_false hcc]; exact ⟨_, rfl, by omega, by omega⟩
        simp only [cond_true, hto, bO]
        have hpc : (dat.take to.toNat).drop ((j * 24 : Nat) : Int).toNat = pieceL 24 dat j := by
          rw [hto2.1, Int.toNat_natCast, pieceL, List.take_eq_take_iff.2 (show min (min (j * 24 + 24) dat.length) dat.length = min (j * 24 + 24) dat.length by omega)]
        rw [hpc, dec_true (show 0 ≤ ((j * 24 : Nat) : Int) by omega), dec_true (show ((j * 24 : Nat) : Int) ≤ to by omega), dec_true (show to ≤ (dat.length : Int) by omega), dec_true (by simp; omega), dec_true (by simp; omega), w64 (n := off + ((j * 24 : Nat) : Int)) (by omega) (by omega)]
        simp only [cond_true, List.nil_append]
        have hw := s_write_eq (putAt st id off dat j) 0 0 2 id (off + ((j * 24 : Nat) : Int)) (pieceL 24 dat j) hI.up hr (byt_drop (byt_take hc.byt _) _) (by omega) (by omega) (by omega) _ hf
        have hw' : P_s_l14Write_r0_4 (((putAt st id off dat j).1.1, (putAt st id off dat j).1.2), ((putAt st id off dat j).2.1, ((putAt st id off dat j).2.2.1, (putAt st id off dat j).2.2.2))) (0, (0, (2, (id, (off + ((j * 24 : Nat) : Int), pieceL 24 dat j))))) = some (putAt st id off dat (j + 1), ()) := hw
        rw [hw']
        simp only [bO]
        refine .inl ⟨_, rfl, ⟨j + 1, by omega, ?_⟩, by simp only; omega⟩
        rw [show ((j * 24 : Nat) : Int) + 24 = (((j + 1) * 24 : Nat) : Int) by omega]
      · have : j = nPc dat := by omega
        subst this
        have : ¬ nPc dat * 24 < dat.length := fun h => hi (nPc_lt.2 h)
        rw [dec_false (show ¬ ((nPc dat * 24 : Nat) : Int) < (dat.length : Int) by omega)]
        exact .inr ⟨_, rfl, rfl⟩) (0, st.2.1, st.2.2.1, st.2.2.2, st.1.1, st.1.2, ()) ⟨0, by omega, rfl⟩
  rw [e, hz]
/-- What PutUp makes of a right store. -/
def putF (st : TStore) (id : ByteArray) (off : Int) (dat : List Int) : TStore × Int :=
  if idB id = true ∧ 1 ≤ dat.length ∧ dat.length ≤ 400 then
    (if upHas st.2.2.2 id = true then
      (if (rd kUp st.2.2.2 (upIns st.2.2.2 id : Int)).2.2.2 = true ∨ off ≠ (List.length (rd kUp st.2.2.2 (upIns st.2.2.2 id : Int)).2.2.1 : Int) ∨ off + (dat.length : Int) > (rd kUp st.2.2.2 (upIns st.2.2.2 id : Int)).2.1 then (st, 4)
       else if (st.1.1.length : Int) - st.2.2.1 < (nPc dat : Int) then (st, 5) else (putAt st id off dat (nPc dat), 0))
     else (st, 2))
  else (st, 1)
theorem tdiv24 (dat : List Int) (h : dat.length ≤ 400) : (IntKind.i64.wrap ((IntKind.i64.wrap ((IntKind.i64.wrap ((dat.length : Int) + 24)) - 1)).tdiv 24)) = (nPc dat : Int) := by
  have htd : ((dat.length : Int) + 24 - 1).tdiv 24 = (nPc dat : Int) := by
    rw [Int.tdiv_eq_ediv_of_nonneg (by omega)]
    unfold nPc
    omega
  rw [w64 (n := (dat.length : Int) + 24) (by omega) (by omega), w64 (n := (dat.length : Int) + 24 - 1) (by omega) (by omega), htd, w64 (by unfold nPc; omega) (by unfold nPc; omega)]
/-- A right store. -/
structure Rt (st : TStore) : Prop where
  g : StoreG st
  up : Ups st.2.2.2
  dk : DiskS st.1
theorem putC_of {st : TStore} {id : ByteArray} {off : Int} {dat : List Int} (h : Rt st) (hb : Byt dat) (h1 : idB id = true) (h2 : 1 ≤ dat.length ∧ dat.length ≤ 400) (h3 : upHas st.2.2.2 id = true)
    (h4 : ¬ ((rd kUp st.2.2.2 (upIns st.2.2.2 id : Int)).2.2.2 = true ∨ off ≠ (List.length (rd kUp st.2.2.2 (upIns st.2.2.2 id : Int)).2.2.1 : Int) ∨ off + (dat.length : Int) > (rd kUp st.2.2.2 (upIns st.2.2.2 id : Int)).2.1))
    (h5 : ¬ (st.1.1.length : Int) - st.2.2.1 < (nPc dat : Int)) : PutC st id off dat := by
  obtain ⟨g1, g2, g3, g4, ⟨g5, g6⟩, _⟩ := h.g
  rw [not_or, not_or] at h4
  refine ⟨h1, ⟨g1, g2⟩, ⟨g5, by omega⟩, g4, h.dk, h.up, h3, by simpa using h4.1, Decidable.not_not.1 h4.2.1, by have h6 := h4.2.2; exact Int.not_lt.1 h6, hb, h2.1⟩
theorem i_putUp_eq (st : TStore) (id : ByteArray) (off : Int) (dat : List Int) (hid : id.size ≤ maxLen) (h : Rt st) (hb : Byt dat) (hd : dat.length ≤ 1048576) (ho : -9223372036854775808 ≤ off ∧ off ≤ 9223372036854775807) :
    P_i_Store_putUp st id off dat = some ((putF st id off dat).2, (putF st id off dat).1, ()) := by
  obtain ⟨g1, g2, g3, g4, ⟨g5, g6⟩, _⟩ := h.g
  have hU := h.up
  have hl : st.1.1.length ≤ 1048576 := by omega
  have hul := hU.2.1
  simp only [P_i_Store_putUp, B_i_Store_putUp, idOk_eq id hid, inRange_eq, bO, putF]
  cases hidb : idB id with
  | false => simp [bindS]
  | true =>
    simp only [Bool.not_true, cond_false, true_and]
    by_cases hlen : 1 ≤ (dat.length : Int) ∧ (dat.length : Int) ≤ 400
    · rw [dec_true hlen, if_pos (show 1 ≤ dat.length ∧ dat.length ≤ 400 by omega)]
      simp only [Bool.not_true, cond_false, bindS]
      rw [i_find_eq st.2.2.2 id (by simp only [maxLen]; omega), i_left_eq st g5 g6 hl, tdiv24 dat (by omega)]
      cases hh : upHas st.2.2.2 id with
      | false =>
        simp only [Bool.false_eq_true, if_false, bO]
        rw [dec_true (show (-1 : Int) < 0 by omega)]
        rfl
      | true =>
        obtain ⟨hlt, hid2⟩ := upHas_iff.1 hh
        have hu := hU.2.2 _ (List.getElem_mem hlt)
        rw [← rd_nat (k := kUp) hlt] at hu
        have hu1 := hu.1
        have hu2 := hu.2.1
        simp only [if_true, bO]
        rw [dec_false (show ¬ (upIns st.2.2.2 id : Int) < 0 by omega)]
        simp only [cond_false]
        cases hdn : (rd kUp st.2.2.2 (upIns st.2.2.2 id : Int)).2.2.2 with
        | true => simp [bO]
        | false =>
          simp only [cond_false]
          cases ho' : decide (off = (List.length (rd kUp st.2.2.2 (upIns st.2.2.2 id : Int)).2.2.1 : Int)) with
          | false =>
            have ho := of_decide_eq_false ho'
            rw [if_pos (.inr (.inl ho))]
            rfl
          | true =>
            have ho := of_decide_eq_true ho'
            simp only [Bool.not_true, cond_false, bO]
            rw [w64 (n := off + (dat.length : Int)) (by omega) (by omega)]
            by_cases hw : off + (dat.length : Int) > (rd kUp st.2.2.2 (upIns st.2.2.2 id : Int)).2.1
            · rw [dec_true hw, if_pos (.inr (.inr hw))]
              rfl
            · have hno : ¬ ((rd kUp st.2.2.2 (upIns st.2.2.2 id : Int)).2.2.2 = true ∨ off ≠ (List.length (rd kUp st.2.2.2 (upIns st.2.2.2 id : Int)).2.2.1 : Int) ∨ off + (dat.length : Int) > (rd kUp st.2.2.2 (upIns st.2.2.2 id : Int)).2.1) := by
                rw [hdn]; rintro (hx | hx | hx)
                · cases hx
                · exact hx ho
                · exact hw hx
              have hno' := hno
              rw [hdn] at hno'
              rw [dec_false hw, if_neg hno']
              simp only [cond_false, bO]
              by_cases hleft : (st.1.1.length : Int) - st.2.2.1 < (nPc dat : Int)
              · rw [dec_true hleft, if_pos hleft]
                rfl
              · rw [dec_false hleft, if_neg hleft, dec_true (show dat.length ≤ 1152921504606846976 by omega)]
                simp only [cond_false, cond_true]
                have hc := putC_of h hb hidb ⟨by omega, by omega⟩ hh hno hleft
                obtain ⟨o', e⟩ := i_put_fold hc (nPc dat) 0 (by omega) off (fun _ => by simp)
                rw [List.drop_zero] at e
                have e' : foldP (L_i_Store_putUp_0 P_i_Store_write_r97_0 id) (pieces 24 dat) (off, st.2.1, st.2.2.1, st.1.1, st.1.2, st.2.2.2, ()) = _ := e
                rw [e']
                rfl
    · rw [dec_false hlen, if_neg (show ¬ (1 ≤ dat.length ∧ dat.length ≤ 400) by omega)]
      rfl
theorem s_putUp_eq (st : TStore) (id : ByteArray) (off : Int) (dat : List Int) (hid : id.size ≤ maxLen) (h : Rt st) (hS : StoreS st) (hok : P_s_StoreOk st = some (true, ())) (hb : Byt dat) (hd : dat.length ≤ 1048576) (ho : -9223372036854775808 ≤ off ∧ off ≤ 9223372036854775807) :
    P_s_PutUp_r99_0 st id off dat = some ((putF st id off dat).1, (putF st id off dat).2, ()) := by
  obtain ⟨g1, g2, g3, g4, ⟨g5, g6⟩, _⟩ := h.g
  have hU := h.up
  have hl : st.1.1.length ≤ 1048576 := by omega
  simp only [P_s_PutUp_r99_0, B_s_PutUp_r99_0, s_copyStore_eq st hS, hok, l11Id_eq id hid, l1In_eq, bO, putF]
  cases hidb : idB id with
  | false => simp [bindS]
  | true =>
    simp only [Bool.not_true, cond_false, true_and]
    by_cases hlen : 1 ≤ (dat.length : Int) ∧ (dat.length : Int) ≤ 400
    · rw [dec_true hlen, if_pos (show 1 ≤ dat.length ∧ dat.length ≤ 400 by omega)]
      simp only [Bool.not_true, cond_false, bindS]
      rw [s_at_eq st.2.2.2 id hU, s_left_eq st g5 g6 hl, tdiv24 dat (by omega)]
      cases hh : upHas st.2.2.2 id with
      | false =>
        simp only [Bool.false_eq_true, if_false, bO]
        rw [dec_true (show (-1 : Int) < 0 by omega)]
        rfl
      | true =>
        obtain ⟨hlt, hid2⟩ := upHas_iff.1 hh
        have hu := hU.2.2 _ (List.getElem_mem hlt)
        rw [← rd_nat (k := kUp) hlt] at hu
        have hu1 := hu.1
        have hu2 := hu.2.1
        simp only [if_true, bO]
        rw [dec_false (show ¬ (upIns st.2.2.2 id : Int) < 0 by omega), dec_true (show (0 : Int) ≤ (upIns st.2.2.2 id : Int) by omega), dec_true (show (upIns st.2.2.2 id : Int) < (st.2.2.2.length : Int) by omega)]
        simp only [cond_true, cond_false]
        cases hdn : (rd kUp st.2.2.2 (upIns st.2.2.2 id : Int)).2.2.2 with
        | true => simp [bO]
        | false =>
          simp only [cond_false]
          cases ho' : decide (off = (List.length (rd kUp st.2.2.2 (upIns st.2.2.2 id : Int)).2.2.1 : Int)) with
          | false =>
            have ho := of_decide_eq_false ho'
            rw [if_pos (.inr (.inl ho))]
            rfl
          | true =>
            have ho := of_decide_eq_true ho'
            simp only [Bool.not_true, cond_false, bO]
            rw [w64 (n := off + (dat.length : Int)) (by omega) (by omega)]
            by_cases hw : off + (dat.length : Int) > (rd kUp st.2.2.2 (upIns st.2.2.2 id : Int)).2.1
            · rw [dec_true hw, if_pos (.inr (.inr hw))]
              rfl
            · have hno : ¬ ((rd kUp st.2.2.2 (upIns st.2.2.2 id : Int)).2.2.2 = true ∨ off ≠ (List.length (rd kUp st.2.2.2 (upIns st.2.2.2 id : Int)).2.2.1 : Int) ∨ off + (dat.length : Int) > (rd kUp st.2.2.2 (upIns st.2.2.2 id : Int)).2.1) := by
                rw [hdn]; rintro (hx | hx | hx)
                · cases hx
                · exact hx ho
                · exact hw hx
              have hno' := hno
              rw [hdn] at hno'
              rw [dec_false hw, if_neg hno']
              simp only [cond_false, bO]
              by_cases hleft : (st.1.1.length : Int) - st.2.2.1 < (nPc dat : Int)
              · rw [dec_true hleft, if_pos hleft]
                rfl
              · rw [dec_false hleft, if_neg hleft]
                simp only [cond_false]
                have hc := putC_of h hb hidb ⟨by omega, by omega⟩ hh hno hleft
                rw [s_put_loop hc (by omega)]
                rfl
    · rw [dec_false hlen, if_neg (show ¬ (1 ≤ dat.length ∧ dat.length ≤ 400) by omega)]
      rfl
theorem putF_inv {st : TStore} {id : ByteArray} {off : Int} {dat : List Int} (h : Rt st) (hb : Byt dat) : Ups (putF st id off dat).1.2.2.2 ∧ DiskS (putF st id off dat).1.1 := by
  unfold putF
  split
  · rename_i h1
    split
    · rename_i h3
      split
      · exact ⟨h.up, h.dk⟩
      · rename_i h4
        split
        · exact ⟨h.up, h.dk⟩
        · rename_i h5
          have := putI_at (putC_of h hb h1.1 h1.2 h3 h4 h5) _ (Nat.le_refl _)
          exact ⟨this.up, this.dk⟩
    · exact ⟨h.up, h.dk⟩
  · exact ⟨h.up, h.dk⟩
theorem ups_storeS {s : TStore} (hd : DiskS s.1) (hu : Ups s.2.2.2) : StoreS s := ⟨hd, by have := hu.2.1; omega, ups_dat hu⟩
theorem ups_storeSm {s : TStore} (hd : DiskS s.1) (hu : Ups s.2.2.2) : Sm maxLen kStorex s :=
  ⟨⟨secs_sm (by simp only [maxLen]; omega) hd.1, secs_sm (by simp only [maxLen]; omega) hd.2⟩, trivial, trivial, ups_sm (by simp only [maxLen]; omega) hu⟩

def makeF (st : TStore) (id : ByteArray) (want : Int) : TStore × Int :=
  if idB id = true ∧ 0 ≤ want ∧ want ≤ 1000000 then
    (if upHas st.2.2.2 id = true then (st, 3)
     else if (st.1.1.length : Int) - st.2.2.1 < 1 ∨ 10 ≤ st.2.2.2.length then (st, 5)
     else (wrote st (st.2.1, st.2.2.1, 1, id, want, []) (st.2.2.2.take (upIns st.2.2.2 id) ++ (id, want, [], false) :: st.2.2.2.drop (upIns st.2.2.2 id)), 0))
  else (st, 1)
def doneF (st : TStore) (id : ByteArray) (sum : Int) : TStore × Int :=
  if idB id = true then
    (if upHas st.2.2.2 id = true then
      (if (List.length (rd kUp st.2.2.2 (upIns st.2.2.2 id : Int)).2.2.1 : Int) < (rd kUp st.2.2.2 (upIns st.2.2.2 id : Int)).2.1 then (st, 4)
       else if sum ≠ ((crcL (rd kUp st.2.2.2 (upIns st.2.2.2 id : Int)).2.2.1 ^^^ 4294967295 : Nat) : Int) then (st, 6)
       else if (rd kUp st.2.2.2 (upIns st.2.2.2 id : Int)).2.2.2 = true then (st, 0)
       else if (st.1.1.length : Int) - st.2.2.1 < 1 then (st, 5)
       else (wrote st (st.2.1, st.2.2.1, 3, id, 0, []) (st.2.2.2.set (upIns st.2.2.2 id) ((rd kUp st.2.2.2 (upIns st.2.2.2 id : Int)).1, (rd kUp st.2.2.2 (upIns st.2.2.2 id : Int)).2.1, (rd kUp st.2.2.2 (upIns st.2.2.2 id : Int)).2.2.1, true)), 0))
     else (st, 2))
  else (st, 1)
def dropF (st : TStore) (id : ByteArray) : TStore × Int :=
  if idB id = true then
    (if upHas st.2.2.2 id = true then
      (if (st.1.1.length : Int) - st.2.2.1 < 1 then (st, 5)
       else (wrote st (st.2.1, st.2.2.1, 4, id, 0, []) (st.2.2.2.take (upIns st.2.2.2 id) ++ st.2.2.2.drop (upIns st.2.2.2 id + 1)), 0))
     else (st, 2))
  else (st, 1)
theorem rec_ok {st : TStore} (h : StoreG st) (k n : Int) (id : ByteArray) (hid : idB id = true) (hl : ¬ (st.1.1.length : Int) - st.2.2.1 < 1) (hk : k = 1 ∧ 0 ≤ n ∧ n ≤ 1000000000 ∨ (k = 3 ∨ k = 4) ∧ n = 0) : recOkB (st.2.1, st.2.2.1, k, id, n, []) = true := by
  obtain ⟨g1, g2, g3, g4, ⟨g5, g6⟩, _⟩ := h
  simp only [recOkB, hid, List.length_nil]
  rw [dec_true (show 0 ≤ st.2.1 ∧ st.2.1 ≤ 10000 by omega), dec_true (show 0 ≤ st.2.2.1 ∧ st.2.2.1 ≤ 199 by omega)]
  rcases hk with ⟨rfl, h0, h1⟩ | ⟨rfl | rfl, rfl⟩
  · rw [if_pos rfl, dec_true (show 0 ≤ n ∧ n ≤ 1000000000 from ⟨h0, h1⟩)]; rfl
  · rfl
  · rfl
theorem make_fold {st : TStore} {id : ByteArray} {want : Int} (h1 : ¬ upHas st.2.2.2 id = true) (h2 : ¬ 10 ≤ st.2.2.2.length) : foldOne st.2.2.2 (st.2.1, st.2.2.1, 1, id, want, []) = some (st.2.2.2.take (upIns st.2.2.2 id) ++ (id, want, [], false) :: st.2.2.2.drop (upIns st.2.2.2 id)) := by
  simp only [foldOne, if_true]
  rw [if_neg (fun h => h.elim h1 h2)]
theorem done_fold {st : TStore} {id : ByteArray} (hU : Ups st.2.2.2) (h1 : upHas st.2.2.2 id = true) (h2 : ¬ (List.length (rd kUp st.2.2.2 (upIns st.2.2.2 id : Int)).2.2.1 : Int) < (rd kUp st.2.2.2 (upIns st.2.2.2 id : Int)).2.1) (h3 : ¬ (rd kUp st.2.2.2 (upIns st.2.2.2 id : Int)).2.2.2 = true) :
    foldOne st.2.2.2 (st.2.1, st.2.2.1, 3, id, 0, []) = some (st.2.2.2.set (upIns st.2.2.2 id) ((rd kUp st.2.2.2 (upIns st.2.2.2 id : Int)).1, (rd kUp st.2.2.2 (upIns st.2.2.2 id : Int)).2.1, (rd kUp st.2.2.2 (upIns st.2.2.2 id : Int)).2.2.1, true)) := by
  obtain ⟨hlt, hid2⟩ := upHas_iff.1 h1
  have hu := hU.2.2 _ (List.getElem_mem hlt)
  rw [← rd_nat (k := kUp) hlt] at hu
  have hu1 := hu.1
  simp only [foldOne, h1]
  rw [if_neg (by omega), if_neg (by simp), if_neg (by omega), if_pos trivial, if_neg (fun h => h.elim h3 (fun h => h (Int.le_antisymm hu1 (Int.not_lt.1 h2))))]
theorem drop_fold {st : TStore} {id : ByteArray} (h1 : upHas st.2.2.2 id = true) : foldOne st.2.2.2 (st.2.1, st.2.2.1, 4, id, 0, []) = some (st.2.2.2.take (upIns st.2.2.2 id) ++ st.2.2.2.drop (upIns st.2.2.2 id + 1)) := by
  simp only [foldOne, h1]
  rw [if_neg (by omega), if_neg (by simp), if_neg (by omega), if_neg (by omega), if_pos trivial]
theorem i_makeUp_eq (st : TStore) (id : ByteArray) (want : Int) (hid : id.size ≤ maxLen) (h : Rt st) : P_i_Store_makeUp st id want = some ((makeF st id want).2, (makeF st id want).1, ()) := by
  obtain ⟨g1, g2, g3, g4, ⟨g5, g6⟩, _⟩ := h.g
  have hU := h.up
  have hl : st.1.1.length ≤ 1048576 := by omega
  have hul := hU.2.1
  simp only [P_i_Store_makeUp, B_i_Store_makeUp, idOk_eq id hid, inRange_eq, bO, makeF]
  cases hidb : idB id with
  | false => simp [bindS, bO]
  | true =>
    simp only [Bool.not_true, cond_false, true_and]
    by_cases hw : 0 ≤ want ∧ want ≤ 1000000
    · rw [dec_true hw, if_pos hw]
      simp only [Bool.not_true, cond_false, bindS]
      rw [i_find_eq st.2.2.2 id (by simp only [maxLen]; omega), i_left_eq st g5 g6 hl]
      cases hh : upHas st.2.2.2 id with
      | true =>
        simp only [if_true, bO]
        rw [dec_false (show ¬ (upIns st.2.2.2 id : Int) < 0 by omega)]
        rfl
      | false =>
        simp only [Bool.false_eq_true, if_false, bO]
        rw [dec_true (show (-1 : Int) < 0 by omega)]
        simp only [cond_true]
        by_cases hleft : (st.1.1.length : Int) - st.2.2.1 < 1
        · rw [dec_true hleft, if_pos (.inl hleft)]
          rfl
        · rw [dec_false hleft]
          simp only [cond_false]
          by_cases h10 : 10 ≤ st.2.2.2.length
          · rw [dec_true (show (st.2.2.2.length : Int) ≥ 10 by omega), if_pos (.inr h10)]
            rfl
          · rw [dec_false (show ¬ (st.2.2.2.length : Int) ≥ 10 by omega), if_neg (fun hx => hx.elim hleft h10)]
            simp only [cond_false]
            have hr := rec_ok h.g 1 want id hidb hleft (.inl ⟨rfl, hw.1, by omega⟩)
            have hf := make_fold (st := st) (id := id) (want := want) (by rw [hh]; simp) h10
            rw [i_write_eq st 1 id want [] hU hr byt_nil g5 (by omega) hl _ hf]
            rfl
    · rw [dec_false hw, if_neg hw]
      rfl
theorem s_makeUp_eq (st : TStore) (id : ByteArray) (want : Int) (hid : id.size ≤ maxLen) (h : Rt st) (hS : StoreS st) (hok : P_s_StoreOk st = some (true, ())) : P_s_MakeUp_r99_0 st id want = some ((makeF st id want).1, (makeF st id want).2, ()) := by
  obtain ⟨g1, g2, g3, g4, ⟨g5, g6⟩, _⟩ := h.g
  have hU := h.up
  have hl : st.1.1.length ≤ 1048576 := by omega
  have hul := hU.2.1
  simp only [P_s_MakeUp_r99_0, B_s_MakeUp_r99_0, s_copyStore_eq st hS, hok, l11Id_eq id hid, l1In_eq, bO, makeF]
  cases hidb : idB id with
  | false => simp [bindS, bO]
  | true =>
    simp only [Bool.not_true, cond_false, true_and]
    by_cases hw : 0 ≤ want ∧ want ≤ 1000000
    · rw [dec_true hw, if_pos hw]
      simp only [Bool.not_true, cond_false, bindS]
      rw [s_at_eq st.2.2.2 id hU, s_left_eq st g5 g6 hl]
      cases hh : upHas st.2.2.2 id with
      | true =>
        simp only [if_true, bO]
        rw [dec_true (show (upIns st.2.2.2 id : Int) ≥ 0 by omega)]
        rfl
      | false =>
        simp only [Bool.false_eq_true, if_false, bO]
        rw [dec_false (show ¬ (-1 : Int) ≥ 0 by omega)]
        simp only [cond_false]
        by_cases hleft : (st.1.1.length : Int) - st.2.2.1 < 1
        · rw [dec_true hleft, if_pos (.inl hleft)]
          rfl
        · rw [dec_false hleft]
          simp only [cond_false]
          by_cases h10 : 10 ≤ st.2.2.2.length
          · rw [dec_true (show (st.2.2.2.length : Int) = 10 by omega), if_pos (.inr h10)]
            rfl
          · rw [dec_false (show ¬ (st.2.2.2.length : Int) = 10 by omega), if_neg (fun hx => hx.elim hleft h10)]
            simp only [cond_false]
            have hr := rec_ok h.g 1 want id hidb hleft (.inl ⟨rfl, hw.1, by omega⟩)
            have hf := make_fold (st := st) (id := id) (want := want) (by rw [hh]; simp) h10
            rw [s_write_eq st 0 0 1 id want [] hU hr byt_nil g5 (by omega) hl _ hf]
            rfl
    · rw [dec_false hw, if_neg hw]
      rfl
theorem i_doneUp_eq (st : TStore) (id : ByteArray) (sum : Int) (hid : id.size ≤ maxLen) (h : Rt st) : P_i_Store_doneUp st id sum = some ((doneF st id sum).2, (doneF st id sum).1, ()) := by
  obtain ⟨g1, g2, g3, g4, ⟨g5, g6⟩, _⟩ := h.g
  have hU := h.up
  have hl : st.1.1.length ≤ 1048576 := by omega
  have hul := hU.2.1
  simp only [P_i_Store_doneUp, B_i_Store_doneUp, idOk_eq id hid, bO, doneF]
  cases hidb : idB id with
  | false => rfl
  | true =>
    simp only [Bool.not_true, cond_false, if_true]
    rw [i_find_eq st.2.2.2 id (by simp only [maxLen]; omega), i_left_eq st g5 g6 hl]
    cases hh : upHas st.2.2.2 id with
    | false =>
      simp only [Bool.false_eq_true, if_false, bO]
      rw [dec_true (show (-1 : Int) < 0 by omega)]
      rfl
    | true =>
      obtain ⟨hlt, hid2⟩ := upHas_iff.1 hh
      have hu := hU.2.2 _ (List.getElem_mem hlt)
      have hdl := ups_dat hU _ (List.getElem_mem hlt)
      rw [← rd_nat (k := kUp) hlt] at hu hdl
      simp only [if_true, bO]
      rw [dec_false (show ¬ (upIns st.2.2.2 id : Int) < 0 by omega)]
      simp only [cond_false]
      rw [i_Crc_eq _ hu.2.2.2 (by simp only [maxLen]; omega)]
      simp only [bO]
      by_cases hd1 : (List.length (rd kUp st.2.2.2 (upIns st.2.2.2 id : Int)).2.2.1 : Int) < (rd kUp st.2.2.2 (upIns st.2.2.2 id : Int)).2.1
      · rw [dec_true hd1, if_pos hd1]
        rfl
      rw [dec_false hd1, if_neg hd1]
      simp only [cond_false]
      by_cases hc : sum = ((crcL (rd kUp st.2.2.2 (upIns st.2.2.2 id : Int)).2.2.1 ^^^ 4294967295 : Nat) : Int)
      · rw [dec_true hc, if_neg (fun hx => hx hc)]
        simp only [Bool.not_true, cond_false]
        cases hdn : (rd kUp st.2.2.2 (upIns st.2.2.2 id : Int)).2.2.2 with
        | true => rfl
        | false =>
          simp only [Bool.not_false, cond_true, cond_false, Bool.false_eq_true, if_false, bO]
          by_cases hleft : (st.1.1.length : Int) - st.2.2.1 < 1
          · rw [dec_true hleft, if_pos hleft]
            rfl
          · rw [dec_false hleft, if_neg hleft]
            simp only [cond_false]
            have hr := rec_ok h.g 3 0 id hidb hleft (.inr ⟨.inl rfl, rfl⟩)
            have hf := done_fold hU hh hd1 (by rw [hdn]; simp)
            have hwi : P_i_Store_write_r97_0 ((st.1.1, st.1.2), (st.2.1, (st.2.2.1, st.2.2.2))) 3 id 0 [] = _ := i_write_eq st 3 id 0 [] hU hr byt_nil g5 (by omega) hl _ hf
            simp only [bindS, Bool.not_false, cond_true]
            rw [hwi]
            rfl
      · rw [dec_false hc, if_pos hc]
        rfl
theorem s_doneUp_eq (st : TStore) (id : ByteArray) (sum : Int) (hid : id.size ≤ maxLen) (h : Rt st) (hS : StoreS st) (hok : P_s_StoreOk st = some (true, ())) : P_s_DoneUp_r99_0 st id sum = some ((doneF st id sum).1, (doneF st id sum).2, ()) := by
  obtain ⟨g1, g2, g3, g4, ⟨g5, g6⟩, _⟩ := h.g
  have hU := h.up
  have hl : st.1.1.length ≤ 1048576 := by omega
  have hul := hU.2.1
  simp only [P_s_DoneUp_r99_0, B_s_DoneUp_r99_0, s_copyStore_eq st hS, hok, l11Id_eq id hid, bO, doneF]
  cases hidb : idB id with
  | false => rfl
  | true =>
    simp only [Bool.not_true, cond_false, bindS, if_true]
    rw [s_at_eq st.2.2.2 id hU, s_left_eq st g5 g6 hl]
    cases hh : upHas st.2.2.2 id with
    | false =>
      simp only [Bool.false_eq_true, if_false, bO]
      rw [dec_true (show (-1 : Int) < 0 by omega)]
      rfl
    | true =>
      obtain ⟨hlt, hid2⟩ := upHas_iff.1 hh
      have hu := hU.2.2 _ (List.getElem_mem hlt)
      have hdl := ups_dat hU _ (List.getElem_mem hlt)
      rw [← rd_nat (k := kUp) hlt] at hu hdl
      simp only [if_true, bO]
      rw [dec_false (show ¬ (upIns st.2.2.2 id : Int) < 0 by omega), dec_true (show (0 : Int) ≤ (upIns st.2.2.2 id : Int) by omega), dec_true (show (upIns st.2.2.2 id : Int) < (st.2.2.2.length : Int) by omega)]
      simp only [cond_true, cond_false]
      rw [s_Crc_eq _ hu.2.2.2 (by simp only [maxLen]; omega)]
      simp only [bO]
      by_cases hd1 : (List.length (rd kUp st.2.2.2 (upIns st.2.2.2 id : Int)).2.2.1 : Int) < (rd kUp st.2.2.2 (upIns st.2.2.2 id : Int)).2.1
      · rw [dec_true hd1, if_pos hd1]
        rfl
      rw [dec_false hd1, if_neg hd1]
      simp only [cond_false]
      by_cases hc : sum = ((crcL (rd kUp st.2.2.2 (upIns st.2.2.2 id : Int)).2.2.1 ^^^ 4294967295 : Nat) : Int)
      · rw [dec_true hc, if_neg (fun hx => hx hc)]
        simp only [Bool.not_true, cond_false]
        cases hdn : (rd kUp st.2.2.2 (upIns st.2.2.2 id : Int)).2.2.2 with
        | true => rfl
        | false =>
          simp only [Bool.not_false, cond_true, cond_false, Bool.false_eq_true, if_false, bO]
          by_cases hleft : (st.1.1.length : Int) - st.2.2.1 < 1
          · rw [dec_true hleft, if_pos hleft]
            rfl
          · rw [dec_false hleft, if_neg hleft]
            simp only [cond_false]
            have hr := rec_ok h.g 3 0 id hidb hleft (.inr ⟨.inl rfl, rfl⟩)
            have hf := done_fold hU hh hd1 (by rw [hdn]; simp)
            rw [s_write_eq st 0 0 3 id 0 [] hU hr byt_nil g5 (by omega) hl _ hf]
            rfl
      · rw [dec_false hc, if_pos hc]
        rfl
theorem i_dropUp_eq (st : TStore) (id : ByteArray) (hid : id.size ≤ maxLen) (h : Rt st) : P_i_Store_dropUp st id = some ((dropF st id).2, (dropF st id).1, ()) := by
  obtain ⟨g1, g2, g3, g4, ⟨g5, g6⟩, _⟩ := h.g
  have hU := h.up
  have hl : st.1.1.length ≤ 1048576 := by omega
  have hul := hU.2.1
  simp only [P_i_Store_dropUp, B_i_Store_dropUp, idOk_eq id hid, bO, dropF]
  cases hidb : idB id with
  | false => rfl
  | true =>
    simp only [Bool.not_true, cond_false, if_true, bindS]
    rw [i_find_eq st.2.2.2 id (by simp only [maxLen]; omega), i_left_eq st g5 g6 hl]
    cases hh : upHas st.2.2.2 id with
    | false =>
      simp only [Bool.false_eq_true, if_false, bO]
      rw [dec_true (show (-1 : Int) < 0 by omega)]
      rfl
    | true =>
      simp only [if_true, bO]
      rw [dec_false (show ¬ (upIns st.2.2.2 id : Int) < 0 by omega)]
      simp only [cond_false, Bool.not_true]
      by_cases hleft : (st.1.1.length : Int) - st.2.2.1 < 1
      · rw [dec_true hleft, if_pos hleft]
        rfl
      · rw [dec_false hleft, if_neg hleft]
        simp only [cond_false]
        have hr := rec_ok h.g 4 0 id hidb hleft (.inr ⟨.inr rfl, rfl⟩)
        have hf := drop_fold (st := st) hh
        have hwi : P_i_Store_write_r97_0 ((st.1.1, st.1.2), (st.2.1, (st.2.2.1, st.2.2.2))) 4 id 0 [] = _ := i_write_eq st 4 id 0 [] hU hr byt_nil g5 (by omega) hl _ hf
        rw [hwi]
        rfl
theorem s_dropUp_eq (st : TStore) (id : ByteArray) (hid : id.size ≤ maxLen) (h : Rt st) (hS : StoreS st) (hok : P_s_StoreOk st = some (true, ())) : P_s_DropUp_r99_0 st id = some ((dropF st id).1, (dropF st id).2, ()) := by
  obtain ⟨g1, g2, g3, g4, ⟨g5, g6⟩, _⟩ := h.g
  have hU := h.up
  have hl : st.1.1.length ≤ 1048576 := by omega
  have hul := hU.2.1
  simp only [P_s_DropUp_r99_0, B_s_DropUp_r99_0, s_copyStore_eq st hS, hok, l11Id_eq id hid, bO, dropF]
  cases hidb : idB id with
  | false => rfl
  | true =>
    simp only [Bool.not_true, cond_false, bindS, if_true]
    rw [s_at_eq st.2.2.2 id hU, s_left_eq st g5 g6 hl]
    cases hh : upHas st.2.2.2 id with
    | false =>
      simp only [Bool.false_eq_true, if_false, bO]
      rw [dec_true (show (-1 : Int) < 0 by omega)]
      rfl
    | true =>
      simp only [if_true, bO]
      rw [dec_false (show ¬ (upIns st.2.2.2 id : Int) < 0 by omega)]
      simp only [cond_false]
      by_cases hleft : (st.1.1.length : Int) - st.2.2.1 < 1
      · rw [dec_true hleft, if_pos hleft]
        rfl
      · rw [dec_false hleft, if_neg hleft]
        simp only [cond_false]
        have hr := rec_ok h.g 4 0 id hidb hleft (.inr ⟨.inr rfl, rfl⟩)
        have hf := drop_fold (st := st) hh
        rw [s_write_eq st 0 0 4 id 0 [] hU hr byt_nil g5 (by omega) hl _ hf]
        rfl
theorem makeF_inv {st : TStore} {id : ByteArray} {want : Int} (h : Rt st) : Ups (makeF st id want).1.2.2.2 ∧ DiskS (makeF st id want).1.1 := by
  unfold makeF
  split
  · rename_i h1
    split
    · exact ⟨h.up, h.dk⟩
    · rename_i h2
      split
      · exact ⟨h.up, h.dk⟩
      · rename_i h3
        have hr := rec_ok h.g 1 want id h1.1 (fun hx => h3 (.inl hx)) (.inl ⟨rfl, h1.2.1, by omega⟩)
        exact ⟨foldOne_ups h.up ⟨hr, byt_nil⟩ (make_fold h2 (fun hx => h3 (.inr hx))), wrote_disk h.dk hr _⟩
  · exact ⟨h.up, h.dk⟩
theorem doneF_inv {st : TStore} {id : ByteArray} {sum : Int} (h : Rt st) : Ups (doneF st id sum).1.2.2.2 ∧ DiskS (doneF st id sum).1.1 := by
  unfold doneF
  split
  · rename_i h1
    split
    · rename_i h2
      split
      · exact ⟨h.up, h.dk⟩
      · rename_i h3
        split
        · exact ⟨h.up, h.dk⟩
        · split
          · exact ⟨h.up, h.dk⟩
          · rename_i h5
            split
            · exact ⟨h.up, h.dk⟩
            · rename_i h6
              have hr := rec_ok h.g 3 0 id h1 h6 (.inr ⟨.inl rfl, rfl⟩)
              exact ⟨foldOne_ups h.up ⟨hr, byt_nil⟩ (done_fold h.up h2 h3 h5), wrote_disk h.dk hr _⟩
    · exact ⟨h.up, h.dk⟩
  · exact ⟨h.up, h.dk⟩
theorem dropF_inv {st : TStore} {id : ByteArray} (h : Rt st) : Ups (dropF st id).1.2.2.2 ∧ DiskS (dropF st id).1.1 := by
  unfold dropF
  split
  · rename_i h1
    split
    · rename_i h2
      split
      · exact ⟨h.up, h.dk⟩
      · rename_i h3
        have hr := rec_ok h.g 4 0 id h1 h3 (.inr ⟨.inr rfl, rfl⟩)
        exact ⟨foldOne_ups h.up ⟨hr, byt_nil⟩ (drop_fold h2), wrote_disk h.dk hr _⟩
    · exact ⟨h.up, h.dk⟩
  · exact ⟨h.up, h.dk⟩

def lenOf (st : TStore) (id : ByteArray) : Int := if upHas st.2.2.2 id = true then (List.length (rd kUp st.2.2.2 (upIns st.2.2.2 id : Int)).2.2.1 : Int) else 0
def codeResp (st : TStore) (code : Int) (id : ByteArray) : TResp :=
  if code = 2 then (404, -1) else if code = 3 ∨ code = 4 then (409, lenOf st id) else if code = 5 then (507, -1) else if code = 6 then (422, -1) else (400, -1)
def seeF (st : TStore) (r : TReq) : TResp :=
  if upHas st.2.2.2 r.2.1 = true then (if r.1 = 5 ∧ (rd kUp st.2.2.2 (upIns st.2.2.2 r.2.1 : Int)).2.2.2 = false then (409, lenOf st r.2.1) else (200, lenOf st r.2.1)) else (404, -1)
/-- What a request makes of a store, and its answer. -/
def ansF (st : TStore) (r : TReq) (dat : List Int) : TStore × TResp :=
  if r.1 = 1 then ((makeF st r.2.1 r.2.2).1, if (makeF st r.2.1 r.2.2).2 = 0 then (201, 0) else codeResp st (makeF st r.2.1 r.2.2).2 r.2.1)
  else if r.1 = 3 then ((putF st r.2.1 r.2.2 dat).1, if (putF st r.2.1 r.2.2 dat).2 = 0 then (204, r.2.2 + (dat.length : Int)) else codeResp st (putF st r.2.1 r.2.2 dat).2 r.2.1)
  else if r.1 = 4 then ((doneF st r.2.1 r.2.2).1, if (doneF st r.2.1 r.2.2).2 = 0 then (200, -1) else codeResp st (doneF st r.2.1 r.2.2).2 r.2.1)
  else if r.1 = 6 then ((dropF st r.2.1).1, if (dropF st r.2.1).2 = 0 then (204, -1) else codeResp st (dropF st r.2.1).2 r.2.1)
  else (st, seeF st r)
theorem makeF_same {st : TStore} {id : ByteArray} {n : Int} (h : ¬ (makeF st id n).2 = 0) : (makeF st id n).1 = st := by
  unfold makeF at h ⊢
  split
  · rename_i h1
    rw [if_pos h1] at h
    split
    · rfl
    · rename_i h2
      rw [if_neg h2] at h
      split
      · rfl
      · rename_i h3
        rw [if_neg h3] at h
        exact absurd rfl h
  · rfl
theorem putF_same {st : TStore} {id : ByteArray} {n : Int} {d : List Int} (h : ¬ (putF st id n d).2 = 0) : (putF st id n d).1 = st := by
  unfold putF at h ⊢
  split
  · rename_i h1
    rw [if_pos h1] at h
    split
    · rename_i h2
      rw [if_pos h2] at h
      split
      · rfl
      · rename_i h3
        rw [if_neg h3] at h
        split
        · rfl
        · rename_i h4
          rw [if_neg h4] at h
          exact absurd rfl h
    · rfl
  · rfl
theorem doneF_same {st : TStore} {id : ByteArray} {n : Int} (h : ¬ (doneF st id n).2 = 0) : (doneF st id n).1 = st := by
  unfold doneF at h ⊢
  split
  · rename_i h1
    rw [if_pos h1] at h
    split
    · rename_i h2
      rw [if_pos h2] at h
      split
      · rfl
      · rename_i h3
        rw [if_neg h3] at h
        split
        · rfl
        · rename_i h4
          rw [if_neg h4] at h
          split
          · rfl
          · rename_i h5
            rw [if_neg h5] at h
            split
            · rfl
            · rename_i h6
              rw [if_neg h6] at h
              exact absurd rfl h
    · rfl
  · rfl
theorem dropF_same {st : TStore} {id : ByteArray} (h : ¬ (dropF st id).2 = 0) : (dropF st id).1 = st := by
  unfold dropF at h ⊢
  split
  · rename_i h1
    rw [if_pos h1] at h
    split
    · rename_i h2
      rw [if_pos h2] at h
      split
      · rfl
      · rename_i h4
        rw [if_neg h4] at h
        exact absurd rfl h
    · rfl
  · rfl
theorem putF_len {st : TStore} {id : ByteArray} {off : Int} {dat : List Int} (h : Rt st) (hb : Byt dat) (h0 : (putF st id off dat).2 = 0) : lenOf (putF st id off dat).1 id = off + (dat.length : Int) ∧ off = lenOf st id ∧ 0 ≤ off := by
  unfold putF at h0 ⊢
  split at h0
  · rename_i h1
    rw [if_pos h1]
    split at h0
    · rename_i h3
      rw [if_pos h3]
      split at h0
      · simp at h0
      · rename_i h4
        rw [if_neg h4]
        split at h0
        · simp at h0
        · rename_i h5
          rw [if_neg h5]
          have hc := putC_of h hb h1.1 h1.2 h3 h4 h5
          have hI := putI_at hc _ (Nat.le_refl _)
          have hn : dat.length ≤ nPc dat * 24 := by
            have : ¬ nPc dat < nPc dat := Nat.lt_irrefl _
            rw [nPc_lt] at this
            omega
          have hat := hc.at'
          refine ⟨?_, ?_, by omega⟩
          · unfold lenOf
            rw [if_pos hI.has, hI.val]
            simp only [List.length_append, List.take_of_length_le hn]
            omega
          · unfold lenOf
            rw [if_pos h3]
            exact hat
    · simp at h0
  · simp at h0
theorem i_told_eq (x : TServer) (n : Int) (id : ByteArray) (hU : Ups x.1.2.2.2) : P_i_Server_told x n id = some ((n, lenOf x.1 id), x, ()) := by
  have hul := hU.2.1
  simp only [P_i_Server_told, B_i_Server_told, lenOf]
  rw [i_find_eq x.1.2.2.2 id (by simp only [maxLen]; omega)]
  cases hh : upHas x.1.2.2.2 id with
  | false =>
    simp only [Bool.false_eq_true, if_false, bO]
    rw [dec_true (show (-1 : Int) < 0 by omega)]
    rfl
  | true =>
    simp only [if_true, bO]
    rw [dec_false (show ¬ (upIns x.1.2.2.2 id : Int) < 0 by omega)]
    rfl
theorem i_refused_eq (x : TServer) (c : Int) (id : ByteArray) (hU : Ups x.1.2.2.2) : P_i_Server_refused x c id = some (codeResp x.1 c id, x, ()) := by
  simp only [P_i_Server_refused, B_i_Server_refused, i_told_eq x 409 id hU, codeResp, bO]
  by_cases h2 : c = 2
  · rw [dec_true h2, if_pos h2]; rfl
  rw [dec_false h2, if_neg h2]
  by_cases h3 : c = 3
  · rw [dec_true h3, if_pos (.inl h3)]; rfl
  rw [dec_false h3]
  by_cases h4 : c = 4
  · rw [dec_true h4, if_pos (.inr h4)]; rfl
  rw [dec_false h4, if_neg (fun h => h.elim h3 h4)]
  simp only [cond_false, bO]
  by_cases h5 : c = 5
  · rw [dec_true h5, if_pos h5]; rfl
  rw [dec_false h5, if_neg h5]
  by_cases h6 : c = 6
  · rw [dec_true h6, if_pos h6]; rfl
  rw [dec_false h6, if_neg h6]
  rfl
theorem i_look_eq (x : TServer) (r : TReq) (hU : Ups x.1.2.2.2) : P_i_Server_look x r = some (seeF x.1 r, x, ()) := by
  have hul := hU.2.1
  simp only [P_i_Server_look, B_i_Server_look, i_told_eq x _ r.2.1 hU, seeF, bO]
  rw [i_find_eq x.1.2.2.2 r.2.1 (by simp only [maxLen]; omega)]
  cases hh : upHas x.1.2.2.2 r.2.1 with
  | false =>
    simp only [Bool.false_eq_true, if_false, bO]
    rw [dec_true (show (-1 : Int) < 0 by omega)]
    rfl
  | true =>
    simp only [if_true, bO]
    rw [dec_false (show ¬ (upIns x.1.2.2.2 r.2.1 : Int) < 0 by omega)]
    simp only [cond_false]
    by_cases h5 : r.1 = 5
    · rw [dec_true h5]
      simp only [cond_true, bO]
      cases hd : (rd kUp x.1.2.2.2 (upIns x.1.2.2.2 r.2.1 : Int)).2.2.2 with
      | true => rw [if_neg (fun h => by cases h.2)]; rfl
      | false => rw [if_pos ⟨h5, rfl⟩]; rfl
    · rw [dec_false h5, if_neg (fun h => h5 h.1)]
      rfl
theorem s_upAt_eq (st : TStore) (id : ByteArray) (hU : Ups st.2.2.2) : P_s_UpAt st id = some (if upHas st.2.2.2 id = true then rd kUp st.2.2.2 (upIns st.2.2.2 id : Int) else (⟨#[]⟩, (0, ([], false))), upHas st.2.2.2 id, ()) := by
  simp only [P_s_UpAt, B_s_UpAt]
  rw [s_at_eq st.2.2.2 id hU]
  cases hh : upHas st.2.2.2 id with
  | false =>
    simp only [Bool.false_eq_true, if_false, bO]
    rw [dec_true (show (-1 : Int) < 0 by omega)]
    rfl
  | true =>
    obtain ⟨hlt, hid2⟩ := upHas_iff.1 hh
    have hdl := ups_dat hU _ (List.getElem_mem hlt)
    rw [← rd_nat (k := kUp) hlt] at hdl
    simp only [if_true, bO]
    rw [dec_false (show ¬ (upIns st.2.2.2 id : Int) < 0 by omega), dec_true (show (0 : Int) ≤ (upIns st.2.2.2 id : Int) by omega), dec_true (show (upIns st.2.2.2 id : Int) < (st.2.2.2.length : Int) by omega), dec_true (by simp; omega), dec_true (by simp; omega)]
    simp only [cond_true, cond_false, List.nil_append]
theorem s_bad_eq (st : TStore) (id : ByteArray) (c : Int) (hU : Ups st.2.2.2) : P_s_l15Bad st id c = some (codeResp st c id, ()) := by
  have hlo : (List.length (if upHas st.2.2.2 id = true then rd kUp st.2.2.2 (upIns st.2.2.2 id : Int) else ((⟨#[]⟩, (0, ([], false))) : TUp)).2.2.1 : Int) = lenOf st id := by
    unfold lenOf; split <;> rfl
  simp only [P_s_l15Bad, B_s_l15Bad, s_upAt_eq st id hU, codeResp, bO, hlo]
  by_cases h2 : c = 2
  · rw [dec_true h2, if_pos h2]; rfl
  rw [dec_false h2, if_neg h2]
  by_cases h3 : c = 3
  · rw [dec_true h3, if_pos (.inl h3)]; rfl
  rw [dec_false h3]
  by_cases h4 : c = 4
  · rw [dec_true h4, if_pos (.inr h4)]; rfl
  rw [dec_false h4, if_neg (fun h => h.elim h3 h4)]
  simp only [cond_false, bO]
  by_cases h5 : c = 5
  · rw [dec_true h5, if_pos h5]; rfl
  rw [dec_false h5, if_neg h5]
  by_cases h6 : c = 6
  · rw [dec_true h6, if_pos h6]; rfl
  rw [dec_false h6, if_neg h6]
  rfl
theorem s_looks_eq (st : TStore) (r : TReq) (hU : Ups st.2.2.2) : P_s_l15Looks st r = some (seeF st r, ()) := by
  simp only [P_s_l15Looks, B_s_l15Looks, s_upAt_eq st r.2.1 hU, seeF, lenOf, bO]
  cases hh : upHas st.2.2.2 r.2.1 with
  | false => rfl
  | true =>
    simp only [if_true, Bool.not_true, cond_false]
    by_cases h5 : r.1 = 5
    · rw [dec_true h5]
      cases hd : (rd kUp st.2.2.2 (upIns st.2.2.2 r.2.1 : Int)).2.2.2 with
      | true => rw [if_neg (fun h => by cases h.2)]; rfl
      | false => rw [if_pos ⟨h5, rfl⟩]; rfl
    · rw [dec_false h5, if_neg (fun h => h5 h.1)]
      rfl
theorem i_answer_eq (x : TServer) (r : TReq) (dat : List Int) (hid : r.2.1.size ≤ maxLen) (h : Rt x.1) (hb : Byt dat) (hd : dat.length ≤ 1048576) (ho : -9223372036854775808 ≤ r.2.2 ∧ r.2.2 ≤ 9223372036854775807) :
    P_i_Server_answer x r dat = some ((ansF x.1 r dat).2, ((ansF x.1 r dat).1, x.2), ()) := by
  have hU := h.up
  simp only [P_i_Server_answer, B_i_Server_answer, ansF]
  by_cases h1 : r.1 = 1
  · rw [dec_true h1, if_pos h1, i_makeUp_eq x.1 r.2.1 r.2.2 hid h]
    simp only [cond_true, bO, bindS]
    by_cases hz : (makeF x.1 r.2.1 r.2.2).2 = 0
    · rw [dec_true hz, if_pos hz]; rfl
    · rw [dec_false hz, if_neg hz, makeF_same hz]
      simp only [Bool.not_false, cond_true]
      have e := i_refused_eq x (makeF x.1 r.2.1 r.2.2).2 r.2.1 hU
      have e' : P_i_Server_refused (((x.1.1.1, x.1.1.2), (x.1.2.1, (x.1.2.2.1, x.1.2.2.2))), x.2) (makeF x.1 r.2.1 r.2.2).2 r.2.1 = _ := e
      rw [e']
      rfl
  rw [dec_false h1, if_neg h1]
  by_cases h3 : r.1 = 3
  · rw [dec_true h3, if_pos h3, i_putUp_eq x.1 r.2.1 r.2.2 dat hid h hb hd ho]
    simp only [cond_true, cond_false, bO]
    have hU2 := (putF_inv (id := r.2.1) (off := r.2.2) (dat := dat) h hb).1
    rw [i_told_eq ((putF x.1 r.2.1 r.2.2 dat).1, x.2) 204 r.2.1 hU2]
    simp only [bO, bindS]
    by_cases hz : (putF x.1 r.2.1 r.2.2 dat).2 = 0
    · rw [dec_true hz, if_pos hz, (putF_len h hb hz).1]; rfl
    · rw [dec_false hz, if_neg hz, putF_same hz]
      simp only [Bool.not_false, cond_true]
      have e := i_refused_eq x (putF x.1 r.2.1 r.2.2 dat).2 r.2.1 hU
      have e' : P_i_Server_refused (((x.1.1.1, x.1.1.2), (x.1.2.1, (x.1.2.2.1, x.1.2.2.2))), x.2) (putF x.1 r.2.1 r.2.2 dat).2 r.2.1 = _ := e
      rw [e']
      rfl
  rw [dec_false h3, if_neg h3]
  by_cases h4 : r.1 = 4
  · rw [dec_true h4, if_pos h4, i_doneUp_eq x.1 r.2.1 r.2.2 hid h]
    simp only [cond_true, cond_false, bO, bindS]
    by_cases hz : (doneF x.1 r.2.1 r.2.2).2 = 0
    · rw [dec_true hz, if_pos hz]; rfl
    · rw [dec_false hz, if_neg hz, doneF_same hz]
      simp only [Bool.not_false, cond_true]
      have e := i_refused_eq x (doneF x.1 r.2.1 r.2.2).2 r.2.1 hU
      have e' : P_i_Server_refused (((x.1.1.1, x.1.1.2), (x.1.2.1, (x.1.2.2.1, x.1.2.2.2))), x.2) (doneF x.1 r.2.1 r.2.2).2 r.2.1 = _ := e
      rw [e']
      rfl
  rw [dec_false h4, if_neg h4]
  by_cases h6 : r.1 = 6
  · rw [dec_true h6, if_pos h6, i_dropUp_eq x.1 r.2.1 hid h]
    simp only [cond_true, cond_false, bO, bindS]
    by_cases hz : (dropF x.1 r.2.1).2 = 0
    · rw [dec_true hz, if_pos hz]; rfl
    · rw [dec_false hz, if_neg hz, dropF_same hz]
      simp only [Bool.not_false, cond_true]
      have e := i_refused_eq x (dropF x.1 r.2.1).2 r.2.1 hU
      have e' : P_i_Server_refused (((x.1.1.1, x.1.1.2), (x.1.2.1, (x.1.2.2.1, x.1.2.2.2))), x.2) (dropF x.1 r.2.1).2 r.2.1 = _ := e
      rw [e']
      rfl
  rw [dec_false h6, if_neg h6, i_look_eq x r hU]
  rfl
theorem s_does_eq (st : TStore) (r : TReq) (dat : List Int) (hid : r.2.1.size ≤ maxLen) (h : Rt st) (hS : StoreS st) (hok : P_s_StoreOk st = some (true, ())) (hb : Byt dat) (hd : dat.length ≤ 1048576) (ho : -9223372036854775808 ≤ r.2.2 ∧ r.2.2 ≤ 9223372036854775807) :
    P_s_l15Does_r99_0 st r dat = some ((ansF st r dat).1, (ansF st r dat).2, ()) := by
  have hU := h.up
  simp only [P_s_l15Does_r99_0, B_s_l15Does_r99_0, ansF]
  by_cases h1 : r.1 = 1
  · rw [dec_true h1, if_pos h1, s_makeUp_eq st r.2.1 r.2.2 hid h hS hok]
    simp only [cond_true, bO, bindS]
    by_cases hz : (makeF st r.2.1 r.2.2).2 = 0
    · rw [dec_true hz, if_pos hz]; rfl
    · rw [dec_false hz, if_neg hz, makeF_same hz]
      simp only [Bool.not_false, cond_true, s_bad_eq st r.2.1 _ hU, bO]
  rw [dec_false h1, if_neg h1]
  by_cases h3 : r.1 = 3
  · rw [dec_true h3, if_pos h3, s_putUp_eq st r.2.1 r.2.2 dat hid h hS hok hb hd ho]
    simp only [cond_true, cond_false, bO, bindS]
    by_cases hz : (putF st r.2.1 r.2.2 dat).2 = 0
    · rw [dec_true hz, if_pos hz]
      have hl := putF_len h hb hz
      have hlo : lenOf st r.2.1 ≤ 2000000000 := by
        unfold lenOf
        split
        · rename_i hh
          obtain ⟨hlt, _⟩ := upHas_iff.1 hh
          have hdl := ups_dat hU _ (List.getElem_mem hlt)
          rw [← rd_nat (k := kUp) hlt] at hdl
          omega
        · omega
      rw [w64 (by omega) (by omega)]
      rfl
    · rw [dec_false hz, if_neg hz, putF_same hz]
      simp only [Bool.not_false, cond_true, s_bad_eq st r.2.1 _ hU, bO]
  rw [dec_false h3, if_neg h3]
  by_cases h4 : r.1 = 4
  · rw [dec_true h4, if_pos h4, s_doneUp_eq st r.2.1 r.2.2 hid h hS hok]
    simp only [cond_true, cond_false, bO, bindS]
    by_cases hz : (doneF st r.2.1 r.2.2).2 = 0
    · rw [dec_true hz, if_pos hz]; rfl
    · rw [dec_false hz, if_neg hz, doneF_same hz]
      simp only [Bool.not_false, cond_true, s_bad_eq st r.2.1 _ hU, bO]
  rw [dec_false h4, if_neg h4]
  by_cases h6 : r.1 = 6
  · rw [dec_true h6, if_pos h6, s_dropUp_eq st r.2.1 hid h hS hok]
    simp only [cond_true, cond_false, bO, bindS]
    by_cases hz : (dropF st r.2.1).2 = 0
    · rw [dec_true hz, if_pos hz]; rfl
    · rw [dec_false hz, if_neg hz, dropF_same hz]
      simp only [Bool.not_false, cond_true, s_bad_eq st r.2.1 _ hU, bO]
  rw [dec_false h6, if_neg h6, s_looks_eq st r hU]
  rfl
theorem ansF_inv {st : TStore} {r : TReq} {dat : List Int} (h : Rt st) (hb : Byt dat) : Ups (ansF st r dat).1.2.2.2 ∧ DiskS (ansF st r dat).1.1 := by
  unfold ansF
  split
  · exact makeF_inv h
  · split
    · exact putF_inv h hb
    · split
      · exact doneF_inv h
      · split
        · exact dropF_inv h
        · exact ⟨h.up, h.dk⟩
/-- What marks of a server take. -/
theorem nServer_le {s : TServer} (h : ServS s) : nServer s ≤ 4000000000000000 := by
  have h1 := h.1.1.1.1
  have h2 := h.1.1.2.1
  have h3 := h.1.2.1
  have h4 := h.2
  have c1 := cost_le (fun u : TUp => List.length u.2.2.1 + 3) 2000000003 s.1.2.2.2 (fun u hu => by have := h.1.2.2 u hu; omega)
  have c2 := cost_le (fun _ : THeld => 3) 3 s.2 (fun u hu => Nat.le_refl _)
  have c3 : s.1.2.2.2.length * 2000000003 ≤ 1048576 * 2000000003 := Nat.mul_le_mul_right _ h3
  unfold nServer nStore nDisk
  omega

theorem serve_eq (x : TServer) (who : Int) (r : TReq) (dat : List Int) (hid : r.2.1.size ≤ maxLen) (h : Sm 1048576 kServerx x) (hby : ∀ u ∈ x.1.2.2.2, Byt u.2.2.1) (hb : Byt dat) (hd : dat.length ≤ 1048576) (ho : -9223372036854775808 ≤ r.2.2 ∧ r.2.2 ≤ 9223372036854775807) :
    ∃ y b, P_s_Serve_r99_0 x who r dat = some (y, b, ()) ∧ P_i_Serve x who r dat = some (y, b, ()) ∧ Sm maxLen kServerx y ∧ ServS y := by
  have hM : (1048576 : Nat) ≤ maxLen := by simp only [maxLen]; omega
  have hS := sm_serv (Nat.le_refl _) h
  have hm := sm_mono hM h
  obtain ⟨b, hs, hi, hg⟩ := serverOk_eq x hS.1.1.1 hS.2
  simp only [P_s_Serve_r99_0, B_s_Serve_r99_0, P_i_Serve, B_i_Serve, s_copyServer_eq x hS, i_copyServer_eq x hS, hs, hi, bO]
  cases b with
  | false => exact ⟨x, false, rfl, rfl, hm, hS⟩
  | true =>
    obtain ⟨k1, k2, k3⟩ := hg rfl
    have hr : Rt x.1 := ⟨k2, storeG_ups k2 hby, hS.1.1⟩
    simp only [P_i_Server_serve, B_i_Server_serve, s_ReqOk_eq r hid, i_ReqOk_eq r hid, Bool.not_true, cond_false, cond_true, bO]
    cases hq : reqOkB r with
    | false =>
      by_cases hl : (x.2.length : Int) ≥ 200
      · rw [dec_true hl]; exact ⟨x, false, rfl, rfl, hm, hS⟩
      · rw [dec_false hl]; exact ⟨x, false, rfl, rfl, hm, hS⟩
    | true =>
      by_cases hl : (x.2.length : Int) = 200
      · rw [dec_true hl, dec_true (show (x.2.length : Int) ≥ 200 by omega)]; exact ⟨x, false, rfl, rfl, hm, hS⟩
      · rw [dec_false hl, dec_false (show ¬ (x.2.length : Int) ≥ 200 by omega)]
        simp only [Bool.not_true, cond_false, bindS, bO, s_does_eq x.1 r dat hid hr hS.1 k1 hb hd ho, i_answer_eq x r dat hid hr hb hd ho]
        rw [dec_true (by simp; omega), dec_true (by simp; omega)]
        simp only [cond_true, bO]
        obtain ⟨q1, q2⟩ := ansF_inv (r := r) (dat := dat) hr hb
        have hst := ups_storeS q2 q1
        have hsm := ups_storeSm q2 q1
        refine ⟨_, true, rfl, rfl, ⟨hsm, ?_, fun u hu => ⟨trivial, trivial, trivial⟩⟩, hst, ?_⟩
        · simp only [List.length_append, List.length_cons, List.length_nil]; omega
        · simp only [List.length_append, List.length_cons, List.length_nil]; omega
theorem exactServe (x : TServer) (who : Int) (r : TReq) (dat : List Int) (hw : Wf kServerx x) (hwr : Wf kReq r) (hb : Byt dat) (hdm : dat.length ≤ maxLen) : P_w_FnExactServe x who r dat = some (true, ()) := by
  have ho : -9223372036854775808 ≤ r.2.2 ∧ r.2.2 ≤ 9223372036854775807 := wf_i64 hwr.2.2
  have hm : Sm maxLen kServerx x := sm_wf hw
  have hmr : Sm maxLen kReq r := sm_wf hwr
  simp only [P_w_FnExactServe, B_w_FnExactServe]
  by_cases hd : (dat.length : Int) > 1048576
  · rw [dec_true hd]; rfl
  rw [dec_false hd]
  obtain ⟨r1, e, h1, h2⟩ := szServer_ok x hm 1048576 (by omega) (by omega)
  simp only [cond_false]
  rw [e]
  simp only [bindO]
  by_cases hr : r1 < 0
  · rw [dec_true hr]; rfl
  rw [dec_false hr]
  simp only [cond_false]
  obtain ⟨r2, e2, h3, h4⟩ := szReq_ok r hmr r1 (by omega) (by omega)
  rw [e2]
  simp only
  by_cases hr2 : r2 < 0
  · rw [dec_true hr2]; rfl
  rw [dec_false hr2]
  have hs : Sm 1048576 kServerx x := h2 (by omega)
  have hsr : Sm 1048576 kReq r := h4 (by omega)
  have hby : ∀ u ∈ x.1.2.2.2, Byt u.2.2.1 := fun u hu => byt_wf (hw.1.2.2.2.2 u hu).2.2.1.2
  obtain ⟨y, b, es, ei, hy, hSy⟩ := serve_eq x who r dat hmr.2.1 hs hby hb (by omega) ho
  have hSx := sm_serv (Nat.le_refl _) hs
  have q1 := eqServer_refl y hy
  have q3 := eqServer_refl x hm
  have nx := nServer_le hSx
  have ny := nServer_le hSy
  obtain ⟨mx, x1, x2, x3, ex, ax, bx, fx⟩ := mh_server x hSx.1.2.1 hSx.2 1 (by omega) (by omega)
  obtain ⟨my, y1, y2, y3, ey, ay, by', fy⟩ := mh_server y hSy.1.2.1 hSy.2 1 (by omega) (by omega)
  simp only [cond_false, toServer_eq x hs, toReq_eq r hsr, toByteS_eq dat (by omega), eqByteS_refl dat hdm, es, ei, q1, q3, ex, ey, fy, Bool.not_true, bindS, markByteS_eq dat mx (by omega) (by omega)]
  rw [dec_false (show ¬ mx + (dat.length : Int) < 0 by omega), dec_false (show ¬ my < 0 by omega)]
  simp
end Go.Proofs.YtpdcljonclhhpaaGreat.Ev
