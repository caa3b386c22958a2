/- What the plain functions of the program and of the reference answer: laws of plain data. -/
import Derived.Test.YtmdbndbfhgdhfaaGreatPu
import Derived.Laws.Strings
set_option linter.unusedVariables false
set_option linter.unusedSimpArgs false
namespace Go.Proofs.YtmdbndbfhgdhfaaGreat.Ev

theorem w64 {n : Int} (h0 : -9223372036854775808 ≤ n) (h1 : n < 9223372036854775808) : IntKind.i64.wrap n = n := by
  simp only [IntKind.wrap, IntKind.bits, IntKind.signed, Bool.true_and]
  simp
  split <;> omega
theorem loopO_ind {α β : Type} (f : α → Option (α ⊕ β)) (μ : α → Nat) (I : α → Prop) (Q : β → Prop)
    (h : ∀ x, I x → (∃ y, f x = some (.inl y) ∧ I y ∧ μ y < μ x) ∨ ∃ z, f x = some (.inr z) ∧ Q z) : ∀ x, I x → ∃ z, loopO f x = some z ∧ Q z := by
  intro x
  generalize hn : μ x = n
  induction n using Nat.strongRecOn generalizing x with
  | ind n ih =>
    intro hx
    rw [loopO_eq]
    rcases h x hx with ⟨y, e, hy, hl⟩ | ⟨z, e, hz⟩
    · rw [e]; exact ih (μ y) (by omega) y rfl hy
    · rw [e]; exact ⟨z, rfl, hz⟩
theorem loopO_val {α β : Type} (f : α → Option (α ⊕ β)) (μ : α → Nat) (I : α → Prop) (z : β)
    (h : ∀ x, I x → (∃ y, f x = some (.inl y) ∧ I y ∧ μ y < μ x) ∨ f x = some (.inr z)) (x : α) (hx : I x) : loopO f x = some z := by
  obtain ⟨z', h1, rfl⟩ := loopO_ind f μ I (· = z) (fun x hx => (h x hx).imp id fun h => ⟨_, h, rfl⟩) x hx
  exact h1
/-- A loop that counts from 0 to n: its state at each count is known. -/
theorem loopO_count {α β : Type} (f : α → Option (α ⊕ β)) (s : Nat → α) (n : Nat) (z : β) (h : ∀ i, i < n → f (s i) = some (.inl (s (i + 1)))) (he : f (s n) = some (.inr z)) : loopO f (s 0) = some z := by
  have key : ∀ k i, i + k = n → loopO f (s i) = some z := by
    intro k
    induction k with
    | zero => intro i hi; rw [loopO_eq, show i = n by omega, he]
    | succ k ih => intro i hi; rw [loopO_eq, h i (by omega)]; exact ih (i + 1) (by omega)
  exact key n 0 (by omega)
/-- A loop that counts up and may leave at a place: what it tells is known for each. -/
theorem loopO_find {α β : Type} (f : α → Option (α ⊕ β)) (s : Nat → α) (n : Nat) (z : Nat → β) (go : Nat → Bool) (h : ∀ i, i < n → f (s i) = if go i then some (.inl (s (i + 1))) else some (.inr (z i))) (he : f (s n) = some (.inr (z n))) :
    ∃ i, i ≤ n ∧ (∀ j, j < i → go j = true) ∧ (i < n → go i = false) ∧ loopO f (s 0) = some (z i) := by
  have key : ∀ k i, i + k = n → (∀ j, j < i → go j = true) → ∃ i', i' ≤ n ∧ (∀ j, j < i' → go j = true) ∧ (i' < n → go i' = false) ∧ loopO f (s i) = some (z i') := by
    intro k
    induction k with
    | zero =>
      intro i hi hg
      obtain rfl : i = n := by omega
      exact ⟨i, Nat.le_refl _, hg, fun h => absurd h (by omega), by rw [loopO_eq, he]⟩
    | succ k ih =>
      intro i hi hg
      cases hgo : go i with
      | true =>
        obtain ⟨i', h1, h2, h3, h4⟩ := ih (i + 1) (by omega) (fun j hj => by
          by_cases h : j < i
          · exact hg j h
          · rw [show j = i by omega]; exact hgo)
        refine ⟨i', h1, h2, h3, ?_⟩
        rw [loopO_eq, h i (by omega), if_pos hgo]
        exact h4
      | false =>
        refine ⟨i, by omega, hg, fun _ => hgo, ?_⟩
        rw [loopO_eq, h i (by omega), hgo]
        rfl
  exact key n 0 (by omega) (fun j hj => by omega)
theorem bt_lo (s : ByteArray) (i : Int) : 0 ≤ bt s i := by unfold bt; omega
theorem bt_hi (s : ByteArray) (i : Int) : bt s i < 256 := by
  have := (s.data.toList.getD i.toNat 0).toNat_lt
  unfold bt; omega
theorem bt_w64 (s : ByteArray) (i : Int) : IntKind.i64.wrap (bt s i) = bt s i := w64 (by have := bt_lo s i; omega) (by have := bt_hi s i; omega)
theorem rd_nat {k : K} {xs : List k.T} {i : Nat} (h : i < xs.length) : rd k xs (i : Int) = xs[i] := by
  unfold rd
  rw [Int.toNat_natCast]
  simp [List.getD, h]
theorem rd_int {κ : IntKind} {xs : List Int} {i : Nat} (h : i < xs.length) : rd (.int κ) xs (i : Int) = xs[i] := rd_nat (k := .int κ) h
theorem rd_bool {xs : List Bool} {i : Nat} (h : i < xs.length) : rd .bool xs (i : Int) = xs[i] := rd_nat (k := .bool) h
theorem rd_str {xs : List ByteArray} {i : Nat} (h : i < xs.length) : rd .str xs (i : Int) = xs[i] := rd_nat (k := .str) h
theorem wf_int {κ : IntKind} {n : Int} (h : Wf (.int κ) n) : κ.min ≤ n ∧ n ≤ κ.max := by
  simp only [Wf, Lit.wf, Bool.and_eq_true, decide_eq_true_eq] at h
  exact h
theorem wf_i64 {n : Int} (h : Wf (.int .i64) n) : -9223372036854775808 ≤ n ∧ n ≤ 9223372036854775807 := by
  have := wf_int h
  simp only [IntKind.min, IntKind.max, IntKind.signed, IntKind.bits] at this
  simp at this
  omega
theorem wf_u8 {n : Int} (h : Wf (.int .u8) n) : 0 ≤ n ∧ n < 256 := by
  have := wf_int h
  simp only [IntKind.min, IntKind.max, IntKind.signed, IntKind.bits] at this
  simp at this
  omega
def Byt (a : List Int) : Prop := ∀ x ∈ a, 0 ≤ x ∧ x < 256
theorem byt_wf {a : List Int} (h : ∀ x ∈ a, Wf (.int .u8) x) : Byt a := fun x hx => wf_u8 (h x hx)
theorem pe {α β : Type} (p : α × β) : (p.1, p.2) = p := rfl
theorem dec_true {p : Prop} [Decidable p] (h : p) : decide p = true := decide_eq_true h
theorem dec_false {p : Prop} [Decidable p] (h : ¬ p) : decide p = false := decide_eq_false h

def Sm (N : Nat) : (k : K) → k.T → Prop
  | .int _, _ => True
  | .bool, _ => True
  | .fnc _, _ => True
  | .str, s => s.size ≤ N
  | .sl _ k, xs => xs.length ≤ N ∧ ∀ x ∈ xs, Sm N k x
  | .rs _ k, xs => xs.length ≤ N ∧ ∀ x ∈ xs, Sm N k x
  | .pair a b, x => Sm N a x.1 ∧ Sm N b x.2
theorem sm_wf : ∀ {k : K} {x : k.T}, Wf k x → Sm maxLen k x
  | .int _, _, _ => trivial
  | .bool, _, _ => trivial
  | .fnc _, _, _ => trivial
  | .str, _, h => h
  | .sl _ _, _, h => ⟨h.1, fun x hx => sm_wf (h.2 x hx)⟩
  | .rs _ _, _, h => ⟨h.1, fun x hx => sm_wf (h.2 x hx)⟩
  | .pair _ _, _, h => ⟨sm_wf h.1, sm_wf h.2⟩
theorem Sm.l {N : Nat} {a b : K} {x : (K.pair a b).T} (h : Sm N (.pair a b) x) : Sm N a x.1 := h.1
theorem Sm.r {N : Nat} {a b : K} {x : (K.pair a b).T} (h : Sm N (.pair a b) x) : Sm N b x.2 := h.2
theorem Sm.len {N e : Nat} {k : K} {xs : (K.sl e k).T} (h : Sm N (.sl e k) xs) : List.length xs ≤ N := h.1
theorem Sm.el {N e : Nat} {k : K} {xs : (K.sl e k).T} (h : Sm N (.sl e k) xs) : ∀ x, x ∈ (show List k.T from xs) → Sm N k x := h.2
def SzOk (P : Int → Option (Int × Unit)) (S : Prop) : Prop := ∀ l : Int, 0 ≤ l → l ≤ 1048576 → ∃ r, P l = some (r, ()) ∧ r ≤ l ∧ (0 ≤ r → S)
theorem szS_gen {T : Type} (f : T → Int → Option (Int × Unit)) (S : T → Prop) (L : Int × Int × Unit → Option ((Int × Int × Unit) ⊕ (Int × Unit))) (a : List T) (hn : a.length ≤ maxLen) (hf : ∀ x ∈ a, SzOk (f x) (S x))
    (hs : ∀ (i : Nat) (hi : i < a.length) (l : Int), L (l, (i : Int), ()) = bindO (f a[i] l) fun c => bif decide (c.1 < 0) then some (.inr (-1, ())) else some (.inl (c.1, IntKind.i64.wrap ((i : Int) + 1), ())))
    (he : ∀ l, L (l, (a.length : Int), ()) = some (.inr (l, ()))) : SzOk (fun l => loopO L (l, 0, ())) (∀ x ∈ a, S x) := by
  have key : ∀ k i, i + k = a.length → ∀ l : Int, 0 ≤ l → l ≤ 1048576 → ∃ r, loopO L (l, (i : Int), ()) = some (r, ()) ∧ r ≤ l ∧ (0 ≤ r → ∀ j (hj : j < a.length), i ≤ j → S a[j]) := by
    intro k
    induction k with
    | zero =>
      intro i hi l h0 h1
      obtain rfl : i = a.length := by omega
      exact ⟨l, by rw [loopO_eq, he], Int.le_refl _, fun _ j hj hi => by omega⟩
    | succ k ih =>
      intro i hi l h0 h1
      have hlt : i < a.length := by omega
      obtain ⟨r, e, h2, h3⟩ := hf a[i] (List.getElem_mem hlt) l h0 h1
      rw [loopO_eq, hs i hlt, e]
      simp only [bindO]
      by_cases hr : r < 0
      · rw [dec_true hr]
        exact ⟨-1, rfl, by omega, fun h => by omega⟩
      · rw [dec_false hr]
        simp only [cond_false]
        rw [w64 (by omega) (by simp only [maxLen] at hn; omega)]
        obtain ⟨r', e', h4, h5⟩ := ih (i + 1) (by omega) r (by omega) (by omega)
        refine ⟨r', by simpa using e', by omega, fun h j hj hij => ?_⟩
        by_cases hji : j = i
        · subst hji; exact h3 (by omega)
        · exact h5 h j hj (by omega)
  intro l h0 h1
  obtain ⟨r, e, h2, h3⟩ := key a.length 0 (by omega) l h0 h1
  refine ⟨r, by simpa using e, h2, fun h x hx => ?_⟩
  obtain ⟨j, hj, rfl⟩ := List.getElem_of_mem hx
  exact h3 h j hj (by omega)
theorem eqS_gen (L : Int × Unit → Option ((Int × Unit) ⊕ (Bool × Unit))) (n : Nat) (hn : n ≤ maxLen) (hs : ∀ i : Nat, i < n → L ((i : Int), ()) = some (.inl (IntKind.i64.wrap ((i : Int) + 1), ())))
    (he : L ((n : Int), ()) = some (.inr (true, ()))) : loopO L (0, ()) = some (true, ()) := by
  refine loopO_count L (fun i => ((i : Int), ())) n (true, ()) (fun i hi => ?_) he
  rw [hs i hi, w64 (by omega) (by simp only [maxLen] at hn; omega)]
  rfl
theorem toS_gen {T : Type} (L : Int × List T × Unit → Option ((Int × List T × Unit) ⊕ (List T × Unit))) (a : List T) (z : T) (hn : a.length ≤ maxLen)
    (hs : ∀ (i : Nat) (hi : i < a.length) (b : List T), b.length = a.length → L ((i : Int), b, ()) = some (.inl (IntKind.i64.wrap ((i : Int) + 1), b.set i a[i], ())))
    (he : ∀ b, L ((a.length : Int), b, ()) = some (.inr (b, ()))) : loopO L (0, List.replicate a.length z, ()) = some (a, ()) := by
  have key := loopO_count L (fun i => ((i : Int), a.take i ++ List.replicate (a.length - i) z, ())) a.length (a, ()) (fun i hi => ?_) ?_
  · simpa using key
  · have hl : (a.take i ++ List.replicate (a.length - i) z).length = a.length := by simp; omega
    rw [hs i hi _ hl, w64 (by omega) (by simp only [maxLen] at hn; omega)]
    have : (a.take i ++ List.replicate (a.length - i) z).set i a[i] = a.take (i + 1) ++ List.replicate (a.length - (i + 1)) z := by
      rw [List.set_append_right _ _ (by simp; omega)]
      rw [List.take_succ_eq_append_getElem hi, List.append_assoc]
      congr 1
      rw [show (a.take i).length = i by simp; omega, Nat.sub_self, show a.length - i = (a.length - (i + 1)) + 1 by omega, List.replicate_succ]
      rfl
    rw [this]
    rfl
  · rw [he]
    simp

theorem loopN_congr {α β : Type} {f g : α → Option (α ⊕ β)} (I : α → Prop) (h : ∀ x, I x → f x = g x) (hI : ∀ x y, I x → f x = some (.inl y) → I y) : ∀ n x, I x → loopN f n x = loopN g n x
  | 0, _, _ => rfl
  | n + 1, x, hx => by
    simp only [loopN, ← h x hx]
    cases e : f x with
    | none => rfl
    | some v =>
      cases v with
      | inl y => exact loopN_congr I h hI n y (hI x y hx e)
      | inr z => rfl
theorem loopO_congr {α β : Type} {f g : α → Option (α ⊕ β)} (I : α → Prop) (h : ∀ x, I x → f x = g x) (hI : ∀ x y, I x → f x = some (.inl y) → I y) {x : α} (hx : I x) : loopO f x = loopO g x := by
  cases e : loopO g x with
  | some z =>
    obtain ⟨n, hn⟩ := loopO_spec e
    exact loopO_of (n := n) (by rw [loopN_congr I h hI n x hx]; exact hn)
  | none =>
    cases e' : loopO f x with
    | none => rfl
    | some z =>
      obtain ⟨n, hn⟩ := loopO_spec e'
      rw [loopN_congr I h hI n x hx] at hn
      rw [loopO_of hn] at e
      cases e
def firstN (go : Nat → Bool) : Nat → Nat → Nat
  | i, 0 => i
  | i, k + 1 => if go i then firstN go (i + 1) k else i
theorem firstN_le (go : Nat → Bool) : ∀ k i, firstN go i k ≤ i + k
  | 0, i => Nat.le_refl _
  | k + 1, i => by
    simp only [firstN]
    split
    · have := firstN_le go k (i + 1); omega
    · omega
theorem firstN_fails (go : Nat → Bool) : ∀ k i, firstN go i k < i + k → go (firstN go i k) = false
  | 0, i, h => by simp [firstN] at h
  | k + 1, i, h => by
    simp only [firstN] at h ⊢
    split
    · rename_i hg
      rw [if_pos hg] at h
      exact firstN_fails go k (i + 1) (by omega)
    · rename_i hg
      simpa using hg
theorem loopO_first {α β : Type} (f : α → Option (α ⊕ β)) (s : Nat → α) (n : Nat) (z : Nat → β) (go : Nat → Bool) (h : ∀ i, i < n → f (s i) = if go i then some (.inl (s (i + 1))) else some (.inr (z i))) (he : f (s n) = some (.inr (z n))) :
    loopO f (s 0) = some (z (firstN go 0 n)) := by
  have key : ∀ k i, i + k = n → loopO f (s i) = some (z (firstN go i k)) := by
    intro k
    induction k with
    | zero =>
      intro i hi
      obtain rfl : i = n := by omega
      rw [loopO_eq, he]
      rfl
    | succ k ih =>
      intro i hi
      rw [loopO_eq, h i (by omega)]
      simp only [firstN]
      cases go i with
      | true => simp only [if_true]; exact ih (i + 1) (by omega)
      | false => rfl
  exact key n 0 (by omega)
/-- A loop that asks each place. -/
theorem loopB (L : Int × Unit → Option ((Int × Unit) ⊕ (Bool × Unit))) (n : Nat) (hn : n ≤ maxLen) (go : Nat → Bool) (hs : ∀ i : Nat, i < n → L ((i : Int), ()) = bif go i then some (.inl (IntKind.i64.wrap ((i : Int) + 1), ())) else some (.inr (false, ())))
    (he : L ((n : Int), ()) = some (.inr (true, ()))) : loopO L (0, ()) = some ((List.range n).all go, ()) := by
  have h := loopO_first L (fun i => ((i : Int), ())) n (fun i => (decide (i = n), ())) go (fun i hi => by
    rw [hs i hi, w64 (by omega) (by simp only [maxLen] at hn; omega)]
    cases go i with
    | true => rfl
    | false => simp only [Bool.false_eq_true, if_false, cond_false]; rw [dec_false (by omega)]) (by rw [he]; simp)
  have h' : loopO L (0, ()) = some (decide (firstN go 0 n = n), ()) := h
  rw [h']
  have key : ∀ k i, decide (firstN go i k = i + k) = ((List.range k).all fun j => go (i + j)) := by
    intro k
    induction k with
    | zero => intro i; simp [firstN]
    | succ k ih =>
      intro i
      have e : ((List.range (k + 1)).all fun j => go (i + j)) = (go i && (List.range k).all fun j => go (i + 1 + j)) := by
        rw [List.range_succ_eq_map, List.all_cons, List.all_map]
        simp only [Nat.add_zero]
        congr 2
        funext j
        simp only [Function.comp]
        congr 1
        omega
      rw [e, ← ih (i + 1)]
      by_cases hg : go i = true
      · have e1 : firstN go i (k + 1) = firstN go (i + 1) k := by simp only [firstN]; rw [if_pos hg]
        rw [Bool.eq_iff_iff, hg]
        simp only [decide_eq_true_eq, Bool.true_and, e1]
        omega
      · have e1 : firstN go i (k + 1) = i := by simp only [firstN]; rw [if_neg hg]
        rw [Bool.eq_iff_iff]
        simp only [decide_eq_true_eq, Bool.and_eq_true, e1]
        constructor
        · intro h; omega
        · intro h; exact absurd h.1 hg
  have k0 := key n 0
  simp only [Nat.zero_add] at k0
  rw [k0]
theorem wrap_sub_wrap (x y : Int) : IntKind.i64.wrap (IntKind.i64.wrap x - y) = IntKind.i64.wrap (x - y) := by
  simp only [IntKind.wrap, IntKind.bits, IntKind.signed, Bool.true_and]
  simp
  split <;> split <;> split <;> omega
theorem wrap_lo (x : Int) : -9223372036854775808 ≤ IntKind.i64.wrap x := by
  simp only [IntKind.wrap, IntKind.bits, IntKind.signed, Bool.true_and]
  simp
  split <;> omega
theorem wrap_hi (x : Int) : IntKind.i64.wrap x < 9223372036854775808 := by
  simp only [IntKind.wrap, IntKind.bits, IntKind.signed, Bool.true_and]
  simp
  split <;> omega

theorem eqByteS_refl (a : List Int) (h : a.length ≤ maxLen) : P_w_eqByteS a a = some (true, ()) := by
  simp only [P_w_eqByteS, B_w_eqByteS]
  simp only [decide_true, Bool.not_true, cond_false]
  refine loopO_count (L_w_eqByteS_0 a a) (fun i => ((i : Int), ())) a.length (true, ()) (fun i hi => ?_) ?_
  · have h1 : ((i : Int) < (a.length : Int)) := by omega
    have h2 : (0 : Int) ≤ (i : Int) := by omega
    simp only [L_w_eqByteS_0, dec_true h1, dec_true h2, cond_true, decide_true, Bool.not_true, cond_false]
    rw [w64 (by omega) (by simp only [maxLen] at h; omega)]
    rfl
  · simp [L_w_eqByteS_0]
theorem toByteS_eq (a : List Int) (h : a.length ≤ 281474976710656) : P_w_toByteS a = some (a, ()) := by
  simp only [P_w_toByteS, B_w_toByteS]
  have h1 : (0 : Int) ≤ (a.length : Int) := by omega
  rw [dec_true h1, Int.toNat_natCast, dec_true (show a.length ≤ 9223372036854775807 by omega), dec_true (show 1 * a.length ≤ 281474976710656 by omega)]
  simp only [cond_true]
  have key := loopO_count (L_w_toByteS_0 a) (fun i => ((i : Int), a.take i ++ List.replicate (a.length - i) 0, ())) a.length (a, ()) (fun i hi => ?_) ?_
  · simpa using key
  · have h1 : ((i : Int) < (a.length : Int)) := by omega
    have h2 : (0 : Int) ≤ (i : Int) := by omega
    have hl : (a.take i ++ List.replicate (a.length - i) (0 : Int)).length = a.length := by simp; omega
    simp only [L_w_toByteS_0, hl, dec_true h1, dec_true h2, cond_true]
    rw [w64 (by omega) (by omega), Int.toNat_natCast, rd_nat hi]
    have : (a.take i ++ List.replicate (a.length - i) (0 : Int)).set i a[i] = a.take (i + 1) ++ List.replicate (a.length - (i + 1)) 0 := by
      rw [List.set_append_right _ _ (by simp; omega)]
      rw [List.take_succ_eq_append_getElem hi, List.append_assoc]
      congr 1
      rw [show (a.take i).length = i by simp; omega, Nat.sub_self, show a.length - i = (a.length - (i + 1)) + 1 by omega, List.replicate_succ]
      rfl
    rw [this]
    rfl
  · simp [L_w_toByteS_0]
abbrev Client := ByteArray × List Int × Int × Int
theorem szByteS_eq (a : List Int) (l : Int) (h0 : l ≤ 1048576) (h1 : 0 ≤ l) (h : a.length ≤ maxLen) : P_w_szByteS a l = some (if (a.length : Int) ≤ l then (l - a.length : Int) else -1, ()) := by
  simp only [P_w_szByteS, B_w_szByteS, maxLen] at *
  rw [w64 (by omega) (by omega)]
  split
  · rw [dec_false (by omega)]; rfl
  · rw [dec_true (by omega)]; rfl
theorem szClient_eq (c : Client) (h : c.1.size ≤ maxLen) (h2 : c.2.1.length ≤ maxLen) : P_w_szClient c 1048576 = some (if (c.1.size : Int) + c.2.1.length ≤ 1048576 then (1048576 : Int) - c.1.size - c.2.1.length else -1, ()) := by
  simp only [P_w_szClient, B_w_szClient, maxLen] at *
  rw [w64 (by omega) (by omega)]
  by_cases h3 : (c.1.size : Int) ≤ 1048576
  · rw [dec_false (by omega)]
    simp only [cond_false]
    rw [szByteS_eq _ _ (by omega) (by omega) (by simp only [maxLen]; omega)]
    simp only [bindO]
    split
    · rw [dec_false (by omega), if_pos (by omega)]; rfl
    · rw [dec_true (by omega), if_neg (by omega)]; rfl
  · rw [dec_true (by omega), if_neg (by omega)]; rfl
theorem toClient_eq (c : Client) (h : c.2.1.length ≤ 281474976710656) : P_w_toClient c = some (c, ()) := by
  simp only [P_w_toClient, B_w_toClient]
  rw [toByteS_eq _ h]
  rfl
theorem eqClient_refl (c : Client) (h : c.2.1.length ≤ maxLen) : P_w_eqClient c c = some (true, ()) := by
  simp only [P_w_eqClient, B_w_eqClient]
  rw [eqByteS_refl _ h]
  simp [bindO]
def marked (m : Int) (n : Nat) : List Int := (List.range n).map fun j => IntKind.u8.wrap (m + (j : Nat))
theorem markByteS_eq (a : List Int) (m : Int) (h0 : 0 ≤ m) (h : m + a.length < 9223372036854775808) : P_w_markByteS a m = some (m + a.length, marked m a.length, ()) := by
  simp only [P_w_markByteS, B_w_markByteS]
  have key := loopO_count L_w_markByteS_0 (fun i => (m + (i : Int), (i : Int), marked m i ++ a.drop i, ())) a.length (m + a.length, marked m a.length, ()) (fun i hi => ?_) ?_
  · simpa [marked] using key
  · have h1 : ((i : Int) < (a.length : Int)) := by omega
    have h2 : (0 : Int) ≤ (i : Int) := by omega
    have hl : (marked m i ++ a.drop i).length = a.length := by simp [marked]; omega
    simp only [L_w_markByteS_0, hl, dec_true h1, dec_true h2, cond_true]
    rw [w64 (by omega) (by omega), w64 (by omega) (by omega), Int.toNat_natCast]
    have : (marked m i ++ a.drop i).set i (IntKind.u8.wrap (m + (i : Int))) = marked m (i + 1) ++ a.drop (i + 1) := by
      rw [List.set_append_right _ _ (by simp [marked])]
      rw [show (marked m i).length = i by simp [marked], Nat.sub_self, List.drop_eq_getElem_cons hi, List.set_cons_zero]
      simp [marked, List.range_succ]
    rw [this]
    simp only [Int.natCast_add, Int.natCast_one, Int.add_assoc]
  · simp [L_w_markByteS_0, marked]
theorem heldByteS_eq (n : Nat) (m : Int) (h0 : 0 ≤ m) (h : m + n < 9223372036854775808) : P_w_heldByteS (marked m n) m = some (m + n, ()) := by
  simp only [P_w_heldByteS, B_w_heldByteS]
  have hl : (marked m n).length = n := by simp [marked]
  have key := loopO_count (L_w_heldByteS_0 (marked m n)) (fun i => (m + (i : Int), (i : Int), ())) n (m + n, ()) (fun i hi => ?_) ?_
  · simpa [marked] using key
  · have h1 : ((i : Int) < (n : Int)) := by omega
    have h2 : (0 : Int) ≤ (i : Int) := by omega
    simp only [L_w_heldByteS_0, hl, dec_true h1, dec_true h2, cond_true]
    have hr : rd (.int .u8) (marked m n) (i : Int) = IntKind.u8.wrap (m + (i : Int)) := by
      rw [rd_nat (by rw [hl]; exact hi)]
      simp [marked]
    rw [hr, w64 (by omega) (by omega), w64 (by omega) (by omega)]
    simp only [decide_true, Bool.not_true, cond_false, Int.natCast_add, Int.natCast_one, Int.add_assoc]
  · simp [L_w_heldByteS_0, hl]
def markedC (m : Int) (c : Client) : Client := (c.1, marked m c.2.1.length, c.2.2)
theorem szByteS_ok (a : List Int) (h : Sm maxLen (.sl 0 (.int .u8)) a) : SzOk (P_w_szByteS a) (Sm 1048576 (.sl 0 (.int .u8)) a) := by
  intro l h0 h1
  refine ⟨_, szByteS_eq a l h1 h0 h.1, ?_, fun hr => ⟨?_, fun x _ => trivial⟩⟩
  · split <;> omega
  · split at hr <;> omega
theorem toByteS_sm (a : List Int) (h : Sm 1048576 (.sl 0 (.int .u8)) a) : P_w_toByteS a = some (a, ()) := toByteS_eq a (by have := h.1; omega)
theorem eqByteS_sm (a : List Int) (h : Sm maxLen (.sl 0 (.int .u8)) a) : P_w_eqByteS a a = some (true, ()) := eqByteS_refl a h.1
theorem szBoolS_ok (a : List Bool) (h : Sm maxLen (.sl 4 .bool) a) : SzOk (P_w_szBoolS a) (Sm 1048576 (.sl 4 .bool) a) := by
  have hl : a.length ≤ 9223372036854775807 := h.1
  intro l h0 h1
  simp only [P_w_szBoolS, B_w_szBoolS]
  rw [w64 (by omega) (by omega)]
  by_cases hn : l - (a.length : Int) < 0
  · rw [dec_true hn]; exact ⟨-1, rfl, by omega, fun h => by omega⟩
  rw [dec_false hn]; simp only [cond_false]
  exact ⟨_, rfl, by omega, fun _ => ⟨by omega, fun x _ => by simp [Sm]⟩⟩
theorem szClient_ok (a : TClient) (h : Sm maxLen kClient a) : SzOk (P_w_szClient a) (Sm 1048576 kClient a) := by
  intro l h0 h1
  simp only [P_w_szClient, B_w_szClient]
  have z1 : a.1.size ≤ 9223372036854775807 := (Sm.l h)
  rw [w64 (n := l - (a.1.size : Int)) (by omega) (by omega)]
  by_cases n1 : l - (a.1.size : Int) < 0
  · rw [dec_true n1]; exact ⟨-1, rfl, by omega, fun h => by omega⟩
  rw [dec_false n1]; simp only [cond_false]
  obtain ⟨r2, e2, u2, v2⟩ := szByteS_ok a.2.1 (Sm.l (Sm.r h)) (l - (a.1.size : Int)) (by omega) (by omega)
  rw [e2]; simp only [bindO]
  by_cases n2 : r2 < 0
  · rw [dec_true n2]; exact ⟨-1, rfl, by omega, fun h => by omega⟩
  rw [dec_false n2]; simp only [cond_false]
  exact ⟨_, rfl, by omega, fun _ => ⟨by show a.1.size ≤ 1048576; omega, ⟨v2 (by omega), ⟨by simp [Sm], by simp [Sm]⟩⟩⟩⟩
theorem szClientS_ok (a : List TClient) (h : Sm maxLen (.sl 111 kClient) a) : SzOk (P_w_szClientS a) (Sm 1048576 (.sl 111 kClient) a) := by
  have hl : a.length ≤ 9223372036854775807 := h.1
  intro l h0 h1
  simp only [P_w_szClientS, B_w_szClientS]
  rw [w64 (by omega) (by omega)]
  by_cases hn : l - (a.length : Int) < 0
  · rw [dec_true hn]; exact ⟨-1, rfl, by omega, fun h => by omega⟩
  rw [dec_false hn]; simp only [cond_false]
  obtain ⟨r, e, h2, h3⟩ := szS_gen P_w_szClient (fun x => Sm 1048576 kClient x) (L_w_szClientS_0 P_w_szClient a) a h.1 (fun x hx => szClient_ok x (h.2 x hx)) (by
    intro i hi l
    have g1 : ((i : Int) < (a.length : Int)) := by omega
    have g2 : (0 : Int) ≤ (i : Int) := by omega
    simp only [L_w_szClientS_0, dec_true g1, dec_true g2, cond_true]
    rw [rd_nat (k := kClient) (xs := a) hi]
    ) (fun l => by simp [L_w_szClientS_0]) (l - (a.length : Int)) (by omega) (by omega)
  exact ⟨r, e, by omega, fun h => ⟨by omega, h3 h⟩⟩
theorem szStringS_ok (a : List ByteArray) (h : Sm maxLen (.sl 9 .str) a) : SzOk (P_w_szStringS a) (Sm 1048576 (.sl 9 .str) a) := by
  have hl : a.length ≤ 9223372036854775807 := h.1
  intro l h0 h1
  simp only [P_w_szStringS, B_w_szStringS]
  rw [w64 (by omega) (by omega)]
  by_cases hn : l - (a.length : Int) < 0
  · rw [dec_true hn]; exact ⟨-1, rfl, by omega, fun h => by omega⟩
  rw [dec_false hn]; simp only [cond_false]
  obtain ⟨r, e, h2, h3⟩ := szS_gen (fun (x : ByteArray) l => some (IntKind.i64.wrap (l - (x.size : Int)), ())) (fun x => Sm 1048576 .str x) (L_w_szStringS_0 a) a h.1 (fun x hx l h0 h1 => ⟨_, rfl, by have := h.2 x hx; simp only [Sm, maxLen] at this; rw [w64 (by omega) (by omega)]; omega, fun hr => by have := h.2 x hx; simp only [Sm, maxLen] at this ⊢; rw [w64 (by omega) (by omega)] at hr; omega⟩) (by
    intro i hi l
    have g1 : ((i : Int) < (a.length : Int)) := by omega
    have g2 : (0 : Int) ≤ (i : Int) := by omega
    simp only [L_w_szStringS_0, dec_true g1, dec_true g2, cond_true]
    rw [rd_str (xs := a) hi]
    rfl
    ) (fun l => by simp [L_w_szStringS_0]) (l - (a.length : Int)) (by omega) (by omega)
  exact ⟨r, e, by omega, fun h => ⟨by omega, h3 h⟩⟩
theorem szDisk_ok (a : TDisk) (h : Sm maxLen kDisk a) : SzOk (P_w_szDisk a) (Sm 1048576 kDisk a) := by
  intro l h0 h1
  simp only [P_w_szDisk, B_w_szDisk]
  obtain ⟨r1, e1, u1, v1⟩ := szStringS_ok a.1 (Sm.l h) l (by omega) (by omega)
  rw [e1]; simp only [bindO]
  by_cases n1 : r1 < 0
  · rw [dec_true n1]; exact ⟨-1, rfl, by omega, fun h => by omega⟩
  rw [dec_false n1]; simp only [cond_false]
  obtain ⟨r2, e2, u2, v2⟩ := szStringS_ok a.2 (Sm.r h) r1 (by omega) (by omega)
  rw [e2]; simp only [bindO]
  by_cases n2 : r2 < 0
  · rw [dec_true n2]; exact ⟨-1, rfl, by omega, fun h => by omega⟩
  rw [dec_false n2]; simp only [cond_false]
  exact ⟨_, rfl, by omega, fun _ => ⟨v1 (by omega), v2 (by omega)⟩⟩
theorem szHeldS_ok (a : List THeld) (h : Sm maxLen (.sl 133 kHeld) a) : SzOk (P_w_szHeldS a) (Sm 1048576 (.sl 133 kHeld) a) := by
  have hl : a.length ≤ 9223372036854775807 := h.1
  intro l h0 h1
  simp only [P_w_szHeldS, B_w_szHeldS]
  rw [w64 (by omega) (by omega)]
  by_cases hn : l - (a.length : Int) < 0
  · rw [dec_true hn]; exact ⟨-1, rfl, by omega, fun h => by omega⟩
  rw [dec_false hn]; simp only [cond_false]
  exact ⟨_, rfl, by omega, fun _ => ⟨by omega, fun x _ => by simp [Sm]⟩⟩
theorem szIntS_ok (a : List Int) (h : Sm maxLen (.sl 3 (.int .i64)) a) : SzOk (P_w_szIntS a) (Sm 1048576 (.sl 3 (.int .i64)) a) := by
  have hl : a.length ≤ 9223372036854775807 := h.1
  intro l h0 h1
  simp only [P_w_szIntS, B_w_szIntS]
  rw [w64 (by omega) (by omega)]
  by_cases hn : l - (a.length : Int) < 0
  · rw [dec_true hn]; exact ⟨-1, rfl, by omega, fun h => by omega⟩
  rw [dec_false hn]; simp only [cond_false]
  exact ⟨_, rfl, by omega, fun _ => ⟨by omega, fun x _ => by simp [Sm]⟩⟩
theorem szReq_ok (a : TReq) (h : Sm maxLen kReq a) : SzOk (P_w_szReq a) (Sm 1048576 kReq a) := by
  intro l h0 h1
  simp only [P_w_szReq, B_w_szReq]
  have z1 : a.2.1.size ≤ 9223372036854775807 := (Sm.l (Sm.r h))
  rw [w64 (n := l - (a.2.1.size : Int)) (by omega) (by omega)]
  by_cases n1 : l - (a.2.1.size : Int) < 0
  · rw [dec_true n1]; exact ⟨-1, rfl, by omega, fun h => by omega⟩
  rw [dec_false n1]; simp only [cond_false]
  exact ⟨_, rfl, by omega, fun _ => ⟨by simp [Sm], ⟨by show a.2.1.size ≤ 1048576; omega, by simp [Sm]⟩⟩⟩
theorem szUp_ok (a : TUp) (h : Sm maxLen kUp a) : SzOk (P_w_szUp a) (Sm 1048576 kUp a) := by
  intro l h0 h1
  simp only [P_w_szUp, B_w_szUp]
  have z1 : a.1.size ≤ 9223372036854775807 := (Sm.l h)
  rw [w64 (n := l - (a.1.size : Int)) (by omega) (by omega)]
  by_cases n1 : l - (a.1.size : Int) < 0
  · rw [dec_true n1]; exact ⟨-1, rfl, by omega, fun h => by omega⟩
  rw [dec_false n1]; simp only [cond_false]
  obtain ⟨r2, e2, u2, v2⟩ := szByteS_ok a.2.2.1 (Sm.l (Sm.r (Sm.r h))) (l - (a.1.size : Int)) (by omega) (by omega)
  rw [e2]; simp only [bindO]
  by_cases n2 : r2 < 0
  · rw [dec_true n2]; exact ⟨-1, rfl, by omega, fun h => by omega⟩
  rw [dec_false n2]; simp only [cond_false]
  exact ⟨_, rfl, by omega, fun _ => ⟨by show a.1.size ≤ 1048576; omega, ⟨by simp [Sm], ⟨v2 (by omega), by simp [Sm]⟩⟩⟩⟩
theorem szUpS_ok (a : List TUp) (h : Sm maxLen (.sl 176 kUp) a) : SzOk (P_w_szUpS a) (Sm 1048576 (.sl 176 kUp) a) := by
  have hl : a.length ≤ 9223372036854775807 := h.1
  intro l h0 h1
  simp only [P_w_szUpS, B_w_szUpS]
  rw [w64 (by omega) (by omega)]
  by_cases hn : l - (a.length : Int) < 0
  · rw [dec_true hn]; exact ⟨-1, rfl, by omega, fun h => by omega⟩
  rw [dec_false hn]; simp only [cond_false]
  obtain ⟨r, e, h2, h3⟩ := szS_gen P_w_szUp (fun x => Sm 1048576 kUp x) (L_w_szUpS_0 P_w_szUp a) a h.1 (fun x hx => szUp_ok x (h.2 x hx)) (by
    intro i hi l
    have g1 : ((i : Int) < (a.length : Int)) := by omega
    have g2 : (0 : Int) ≤ (i : Int) := by omega
    simp only [L_w_szUpS_0, dec_true g1, dec_true g2, cond_true]
    rw [rd_nat (k := kUp) (xs := a) hi]
    ) (fun l => by simp [L_w_szUpS_0]) (l - (a.length : Int)) (by omega) (by omega)
  exact ⟨r, e, by omega, fun h => ⟨by omega, h3 h⟩⟩
theorem szStore_ok (a : TStore) (h : Sm maxLen kStorex a) : SzOk (P_w_szStore a) (Sm 1048576 kStorex a) := by
  intro l h0 h1
  simp only [P_w_szStore, B_w_szStore]
  obtain ⟨r1, e1, u1, v1⟩ := szDisk_ok a.1 (Sm.l h) l (by omega) (by omega)
  rw [e1]; simp only [bindO]
  by_cases n1 : r1 < 0
  · rw [dec_true n1]; exact ⟨-1, rfl, by omega, fun h => by omega⟩
  rw [dec_false n1]; simp only [cond_false]
  obtain ⟨r2, e2, u2, v2⟩ := szUpS_ok a.2.2.2 (Sm.r (Sm.r (Sm.r h))) r1 (by omega) (by omega)
  rw [e2]; simp only [bindO]
  by_cases n2 : r2 < 0
  · rw [dec_true n2]; exact ⟨-1, rfl, by omega, fun h => by omega⟩
  rw [dec_false n2]; simp only [cond_false]
  exact ⟨_, rfl, by omega, fun _ => ⟨v1 (by omega), ⟨by simp [Sm], ⟨by simp [Sm], v2 (by omega)⟩⟩⟩⟩
theorem szServer_ok (a : TServer) (h : Sm maxLen kServerx a) : SzOk (P_w_szServer a) (Sm 1048576 kServerx a) := by
  intro l h0 h1
  simp only [P_w_szServer, B_w_szServer]
  obtain ⟨r1, e1, u1, v1⟩ := szStore_ok a.1 (Sm.l h) l (by omega) (by omega)
  rw [e1]; simp only [bindO]
  by_cases n1 : r1 < 0
  · rw [dec_true n1]; exact ⟨-1, rfl, by omega, fun h => by omega⟩
  rw [dec_false n1]; simp only [cond_false]
  obtain ⟨r2, e2, u2, v2⟩ := szHeldS_ok a.2 (Sm.r h) r1 (by omega) (by omega)
  rw [e2]; simp only [bindO]
  by_cases n2 : r2 < 0
  · rw [dec_true n2]; exact ⟨-1, rfl, by omega, fun h => by omega⟩
  rw [dec_false n2]; simp only [cond_false]
  exact ⟨_, rfl, by omega, fun _ => ⟨v1 (by omega), v2 (by omega)⟩⟩
theorem szWant_ok (a : TWant) (h : Sm maxLen kWant a) : SzOk (P_w_szWant a) (Sm 1048576 kWant a) := by
  intro l h0 h1
  simp only [P_w_szWant, B_w_szWant]
  obtain ⟨r1, e1, u1, v1⟩ := szReq_ok a.2.1 (Sm.l (Sm.r h)) l (by omega) (by omega)
  rw [e1]; simp only [bindO]
  by_cases n1 : r1 < 0
  · rw [dec_true n1]; exact ⟨-1, rfl, by omega, fun h => by omega⟩
  rw [dec_false n1]; simp only [cond_false]
  obtain ⟨r2, e2, u2, v2⟩ := szByteS_ok a.2.2 (Sm.r (Sm.r h)) r1 (by omega) (by omega)
  rw [e2]; simp only [bindO]
  by_cases n2 : r2 < 0
  · rw [dec_true n2]; exact ⟨-1, rfl, by omega, fun h => by omega⟩
  rw [dec_false n2]; simp only [cond_false]
  exact ⟨_, rfl, by omega, fun _ => ⟨by simp [Sm], ⟨v1 (by omega), v2 (by omega)⟩⟩⟩
theorem szWantS_ok (a : List TWant) (h : Sm maxLen (.sl 123 kWant) a) : SzOk (P_w_szWantS a) (Sm 1048576 (.sl 123 kWant) a) := by
  have hl : a.length ≤ 9223372036854775807 := h.1
  intro l h0 h1
  simp only [P_w_szWantS, B_w_szWantS]
  rw [w64 (by omega) (by omega)]
  by_cases hn : l - (a.length : Int) < 0
  · rw [dec_true hn]; exact ⟨-1, rfl, by omega, fun h => by omega⟩
  rw [dec_false hn]; simp only [cond_false]
  obtain ⟨r, e, h2, h3⟩ := szS_gen P_w_szWant (fun x => Sm 1048576 kWant x) (L_w_szWantS_0 P_w_szWant a) a h.1 (fun x hx => szWant_ok x (h.2 x hx)) (by
    intro i hi l
    have g1 : ((i : Int) < (a.length : Int)) := by omega
    have g2 : (0 : Int) ≤ (i : Int) := by omega
    simp only [L_w_szWantS_0, dec_true g1, dec_true g2, cond_true]
    rw [rd_nat (k := kWant) (xs := a) hi]
    ) (fun l => by simp [L_w_szWantS_0]) (l - (a.length : Int)) (by omega) (by omega)
  exact ⟨r, e, by omega, fun h => ⟨by omega, h3 h⟩⟩
theorem szWorld_ok (a : TWorld) (h : Sm maxLen kWorldx a) : SzOk (P_w_szWorld a) (Sm 1048576 kWorldx a) := by
  intro l h0 h1
  simp only [P_w_szWorld, B_w_szWorld]
  obtain ⟨r1, e1, u1, v1⟩ := szServer_ok a.1 (Sm.l h) l (by omega) (by omega)
  rw [e1]; simp only [bindO]
  by_cases n1 : r1 < 0
  · rw [dec_true n1]; exact ⟨-1, rfl, by omega, fun h => by omega⟩
  rw [dec_false n1]; simp only [cond_false]
  obtain ⟨r2, e2, u2, v2⟩ := szClientS_ok a.2.1 (Sm.l (Sm.r h)) r1 (by omega) (by omega)
  rw [e2]; simp only [bindO]
  by_cases n2 : r2 < 0
  · rw [dec_true n2]; exact ⟨-1, rfl, by omega, fun h => by omega⟩
  rw [dec_false n2]; simp only [cond_false]
  obtain ⟨r3, e3, u3, v3⟩ := szBoolS_ok a.2.2.1 (Sm.l (Sm.r (Sm.r h))) r2 (by omega) (by omega)
  rw [e3]; simp only [bindO]
  by_cases n3 : r3 < 0
  · rw [dec_true n3]; exact ⟨-1, rfl, by omega, fun h => by omega⟩
  rw [dec_false n3]; simp only [cond_false]
  obtain ⟨r4, e4, u4, v4⟩ := szWantS_ok a.2.2.2.1 (Sm.l (Sm.r (Sm.r (Sm.r h)))) r3 (by omega) (by omega)
  rw [e4]; simp only [bindO]
  by_cases n4 : r4 < 0
  · rw [dec_true n4]; exact ⟨-1, rfl, by omega, fun h => by omega⟩
  rw [dec_false n4]; simp only [cond_false]
  obtain ⟨r5, e5, u5, v5⟩ := szHeldS_ok a.2.2.2.2.1 (Sm.l (Sm.r (Sm.r (Sm.r (Sm.r h))))) r4 (by omega) (by omega)
  rw [e5]; simp only [bindO]
  by_cases n5 : r5 < 0
  · rw [dec_true n5]; exact ⟨-1, rfl, by omega, fun h => by omega⟩
  rw [dec_false n5]; simp only [cond_false]
  obtain ⟨r6, e6, u6, v6⟩ := szIntS_ok a.2.2.2.2.2 (Sm.r (Sm.r (Sm.r (Sm.r (Sm.r h))))) r5 (by omega) (by omega)
  rw [e6]; simp only [bindO]
  by_cases n6 : r6 < 0
  · rw [dec_true n6]; exact ⟨-1, rfl, by omega, fun h => by omega⟩
  rw [dec_false n6]; simp only [cond_false]
  exact ⟨_, rfl, by omega, fun _ => ⟨v1 (by omega), ⟨v2 (by omega), ⟨v3 (by omega), ⟨v4 (by omega), ⟨v5 (by omega), v6 (by omega)⟩⟩⟩⟩⟩⟩
theorem toBoolS_eq (a : List Bool) (h : Sm 1048576 (.sl 4 .bool) a) : P_w_toBoolS a = some (a, ()) := by
  have hl : a.length ≤ 1048576 := h.1
  simp only [P_w_toBoolS, B_w_toBoolS]
  rw [dec_true (show (0 : Int) ≤ (a.length : Int) by omega), Int.toNat_natCast, dec_true (by omega), dec_true (by omega)]
  simp only [cond_true]
  refine toS_gen _ a _ (by simp only [maxLen]; omega) (fun i hi b hb => ?_) (fun b => by simp [L_w_toBoolS_0])
  have h1 : ((i : Int) < (a.length : Int)) := by omega
  have h2 : (0 : Int) ≤ (i : Int) := by omega
  simp only [L_w_toBoolS_0, hb, dec_true h1, dec_true h2, cond_true]
  rw [rd_bool (xs := a) hi]
  rfl
theorem toClient_sm (a : TClient) (h : Sm 1048576 kClient a) : P_w_toClient a = some (a, ()) := by
  simp only [P_w_toClient, B_w_toClient, bindO, toByteS_sm a.2.1 (Sm.l (Sm.r h))]
theorem toClientS_eq (a : List TClient) (h : Sm 1048576 (.sl 111 kClient) a) : P_w_toClientS a = some (a, ()) := by
  have hl : a.length ≤ 1048576 := h.1
  simp only [P_w_toClientS, B_w_toClientS]
  rw [dec_true (show (0 : Int) ≤ (a.length : Int) by omega), Int.toNat_natCast, dec_true (by omega), dec_true (by omega)]
  simp only [cond_true]
  refine toS_gen _ a _ (by simp only [maxLen]; omega) (fun i hi b hb => ?_) (fun b => by simp [L_w_toClientS_0])
  have h1 : ((i : Int) < (a.length : Int)) := by omega
  have h2 : (0 : Int) ≤ (i : Int) := by omega
  simp only [L_w_toClientS_0, hb, dec_true h1, dec_true h2, cond_true]
  rw [rd_nat (k := kClient) (xs := a) hi]
  rw [toClient_sm _ (h.2 _ (List.getElem_mem hi))]
  rfl
theorem toStringS_eq (a : List ByteArray) (h : Sm 1048576 (.sl 9 .str) a) : P_w_toStringS a = some (a, ()) := by
  have hl : a.length ≤ 1048576 := h.1
  simp only [P_w_toStringS, B_w_toStringS]
  rw [dec_true (show (0 : Int) ≤ (a.length : Int) by omega), Int.toNat_natCast, dec_true (by omega), dec_true (by omega)]
  simp only [cond_true]
  refine toS_gen _ a _ (by simp only [maxLen]; omega) (fun i hi b hb => ?_) (fun b => by simp [L_w_toStringS_0])
  have h1 : ((i : Int) < (a.length : Int)) := by omega
  have h2 : (0 : Int) ≤ (i : Int) := by omega
  simp only [L_w_toStringS_0, hb, dec_true h1, dec_true h2, cond_true]
  rw [rd_str (xs := a) hi]
  rfl
theorem toDisk_eq (a : TDisk) (h : Sm 1048576 kDisk a) : P_w_toDisk a = some (a, ()) := by
  simp only [P_w_toDisk, B_w_toDisk, bindO, toStringS_eq a.1 (Sm.l h), toStringS_eq a.2 (Sm.r h)]
theorem toResp_sm (a : TResp) (h : Sm 1048576 kResp a) : P_w_toResp a = some (a, ()) := by
  simp only [P_w_toResp, B_w_toResp, bindO]
theorem toHeld_eq (a : THeld) (h : Sm 1048576 kHeld a) : P_w_toHeld a = some (a, ()) := by
  simp only [P_w_toHeld, B_w_toHeld, bindO, toResp_sm a.2 (Sm.r h)]
theorem toHeldS_eq (a : List THeld) (h : Sm 1048576 (.sl 133 kHeld) a) : P_w_toHeldS a = some (a, ()) := by
  have hl : a.length ≤ 1048576 := h.1
  simp only [P_w_toHeldS, B_w_toHeldS]
  rw [dec_true (show (0 : Int) ≤ (a.length : Int) by omega), Int.toNat_natCast, dec_true (by omega), dec_true (by omega)]
  simp only [cond_true]
  refine toS_gen _ a _ (by simp only [maxLen]; omega) (fun i hi b hb => ?_) (fun b => by simp [L_w_toHeldS_0])
  have h1 : ((i : Int) < (a.length : Int)) := by omega
  have h2 : (0 : Int) ≤ (i : Int) := by omega
  simp only [L_w_toHeldS_0, hb, dec_true h1, dec_true h2, cond_true]
  rw [rd_nat (k := kHeld) (xs := a) hi]
  rw [toHeld_eq _ (h.2 _ (List.getElem_mem hi))]
  rfl
theorem toIntS_eq (a : List Int) (h : Sm 1048576 (.sl 3 (.int .i64)) a) : P_w_toIntS a = some (a, ()) := by
  have hl : a.length ≤ 1048576 := h.1
  simp only [P_w_toIntS, B_w_toIntS]
  rw [dec_true (show (0 : Int) ≤ (a.length : Int) by omega), Int.toNat_natCast, dec_true (by omega), dec_true (by omega)]
  simp only [cond_true]
  refine toS_gen _ a _ (by simp only [maxLen]; omega) (fun i hi b hb => ?_) (fun b => by simp [L_w_toIntS_0])
  have h1 : ((i : Int) < (a.length : Int)) := by omega
  have h2 : (0 : Int) ≤ (i : Int) := by omega
  simp only [L_w_toIntS_0, hb, dec_true h1, dec_true h2, cond_true]
  rw [rd_int (xs := a) hi]
  rfl
theorem toReq_eq (a : TReq) (h : Sm 1048576 kReq a) : P_w_toReq a = some (a, ()) := by
  simp only [P_w_toReq, B_w_toReq, bindO]
theorem toUp_eq (a : TUp) (h : Sm 1048576 kUp a) : P_w_toUp a = some (a, ()) := by
  simp only [P_w_toUp, B_w_toUp, bindO, toByteS_sm a.2.2.1 (Sm.l (Sm.r (Sm.r h)))]
theorem toUpS_eq (a : List TUp) (h : Sm 1048576 (.sl 176 kUp) a) : P_w_toUpS a = some (a, ()) := by
  have hl : a.length ≤ 1048576 := h.1
  simp only [P_w_toUpS, B_w_toUpS]
  rw [dec_true (show (0 : Int) ≤ (a.length : Int) by omega), Int.toNat_natCast, dec_true (by omega), dec_true (by omega)]
  simp only [cond_true]
  refine toS_gen _ a _ (by simp only [maxLen]; omega) (fun i hi b hb => ?_) (fun b => by simp [L_w_toUpS_0])
  have h1 : ((i : Int) < (a.length : Int)) := by omega
  have h2 : (0 : Int) ≤ (i : Int) := by omega
  simp only [L_w_toUpS_0, hb, dec_true h1, dec_true h2, cond_true]
  rw [rd_nat (k := kUp) (xs := a) hi]
  rw [toUp_eq _ (h.2 _ (List.getElem_mem hi))]
  rfl
theorem toStore_eq (a : TStore) (h : Sm 1048576 kStorex a) : P_w_toStore a = some (a, ()) := by
  simp only [P_w_toStore, B_w_toStore, bindO, toDisk_eq a.1 (Sm.l h), toUpS_eq a.2.2.2 (Sm.r (Sm.r (Sm.r h)))]
theorem toServer_eq (a : TServer) (h : Sm 1048576 kServerx a) : P_w_toServer a = some (a, ()) := by
  simp only [P_w_toServer, B_w_toServer, bindO, toStore_eq a.1 (Sm.l h), toHeldS_eq a.2 (Sm.r h)]
theorem toWant_eq (a : TWant) (h : Sm 1048576 kWant a) : P_w_toWant a = some (a, ()) := by
  simp only [P_w_toWant, B_w_toWant, bindO, toReq_eq a.2.1 (Sm.l (Sm.r h)), toByteS_sm a.2.2 (Sm.r (Sm.r h))]
theorem toWantS_eq (a : List TWant) (h : Sm 1048576 (.sl 123 kWant) a) : P_w_toWantS a = some (a, ()) := by
  have hl : a.length ≤ 1048576 := h.1
  simp only [P_w_toWantS, B_w_toWantS]
  rw [dec_true (show (0 : Int) ≤ (a.length : Int) by omega), Int.toNat_natCast, dec_true (by omega), dec_true (by omega)]
  simp only [cond_true]
  refine toS_gen _ a _ (by simp only [maxLen]; omega) (fun i hi b hb => ?_) (fun b => by simp [L_w_toWantS_0])
  have h1 : ((i : Int) < (a.length : Int)) := by omega
  have h2 : (0 : Int) ≤ (i : Int) := by omega
  simp only [L_w_toWantS_0, hb, dec_true h1, dec_true h2, cond_true]
  rw [rd_nat (k := kWant) (xs := a) hi]
  rw [toWant_eq _ (h.2 _ (List.getElem_mem hi))]
  rfl
theorem toWorld_eq (a : TWorld) (h : Sm 1048576 kWorldx a) : P_w_toWorld a = some (a, ()) := by
  simp only [P_w_toWorld, B_w_toWorld, bindO, toServer_eq a.1 (Sm.l h), toClientS_eq a.2.1 (Sm.l (Sm.r h)), toBoolS_eq a.2.2.1 (Sm.l (Sm.r (Sm.r h))), toWantS_eq a.2.2.2.1 (Sm.l (Sm.r (Sm.r (Sm.r h)))), toHeldS_eq a.2.2.2.2.1 (Sm.l (Sm.r (Sm.r (Sm.r (Sm.r h))))), toIntS_eq a.2.2.2.2.2 (Sm.r (Sm.r (Sm.r (Sm.r (Sm.r h)))))]
theorem eqBoolS_refl (a : List Bool) (h : Sm maxLen (.sl 4 .bool) a) : P_w_eqBoolS a a = some (true, ()) := by
  simp only [P_w_eqBoolS, B_w_eqBoolS, decide_true, Bool.not_true, cond_false]
  refine eqS_gen _ a.length h.1 (fun i hi => ?_) (by simp [L_w_eqBoolS_0])
  have h1 : ((i : Int) < (a.length : Int)) := by omega
  have h2 : (0 : Int) ≤ (i : Int) := by omega
  simp only [L_w_eqBoolS_0, dec_true h1, dec_true h2, cond_true]
  simp
theorem eqClient_sm (a : TClient) (h : Sm maxLen kClient a) : P_w_eqClient a a = some (true, ()) := by
  simp [P_w_eqClient, B_w_eqClient, bindO, eqByteS_sm a.2.1 (Sm.l (Sm.r h))]
theorem eqClientS_refl (a : List TClient) (h : Sm maxLen (.sl 113 kClient) a) : P_w_eqClientS a a = some (true, ()) := by
  simp only [P_w_eqClientS, B_w_eqClientS, decide_true, Bool.not_true, cond_false]
  refine eqS_gen _ a.length h.1 (fun i hi => ?_) (by simp [L_w_eqClientS_0])
  have h1 : ((i : Int) < (a.length : Int)) := by omega
  have h2 : (0 : Int) ≤ (i : Int) := by omega
  simp only [L_w_eqClientS_0, dec_true h1, dec_true h2, cond_true]
  rw [rd_nat (k := kClient) (xs := a) hi, eqClient_sm _ (h.2 _ (List.getElem_mem hi))]
  rfl
theorem eqStringS_refl (a : List ByteArray) (h : Sm maxLen (.sl 9 .str) a) : P_w_eqStringS a a = some (true, ()) := by
  simp only [P_w_eqStringS, B_w_eqStringS, decide_true, Bool.not_true, cond_false]
  refine eqS_gen _ a.length h.1 (fun i hi => ?_) (by simp [L_w_eqStringS_0])
  have h1 : ((i : Int) < (a.length : Int)) := by omega
  have h2 : (0 : Int) ≤ (i : Int) := by omega
  simp only [L_w_eqStringS_0, dec_true h1, dec_true h2, cond_true]
  simp
theorem eqDisk_refl (a : TDisk) (h : Sm maxLen kDisk a) : P_w_eqDisk a a = some (true, ()) := by
  simp [P_w_eqDisk, B_w_eqDisk, bindO, eqStringS_refl a.1 (Sm.l h), eqStringS_refl a.2 (Sm.r h)]
theorem eqResp_refl (a : TResp) (h : Sm maxLen kResp a) : P_w_eqResp a a = some (true, ()) := by
  simp [P_w_eqResp, B_w_eqResp, bindO]
theorem eqHeld_refl (a : THeld) (h : Sm maxLen kHeld a) : P_w_eqHeld a a = some (true, ()) := by
  simp [P_w_eqHeld, B_w_eqHeld, bindO, eqResp_refl a.2 (Sm.r h)]
theorem eqHeldS_refl (a : List THeld) (h : Sm maxLen (.sl 103 kHeld) a) : P_w_eqHeldS a a = some (true, ()) := by
  simp only [P_w_eqHeldS, B_w_eqHeldS, decide_true, Bool.not_true, cond_false]
  refine eqS_gen _ a.length h.1 (fun i hi => ?_) (by simp [L_w_eqHeldS_0])
  have h1 : ((i : Int) < (a.length : Int)) := by omega
  have h2 : (0 : Int) ≤ (i : Int) := by omega
  simp only [L_w_eqHeldS_0, dec_true h1, dec_true h2, cond_true]
  rw [rd_nat (k := kHeld) (xs := a) hi, eqHeld_refl _ (h.2 _ (List.getElem_mem hi))]
  rfl
theorem eqIntS_refl (a : List Int) (h : Sm maxLen (.sl 3 (.int .i64)) a) : P_w_eqIntS a a = some (true, ()) := by
  simp only [P_w_eqIntS, B_w_eqIntS, decide_true, Bool.not_true, cond_false]
  refine eqS_gen _ a.length h.1 (fun i hi => ?_) (by simp [L_w_eqIntS_0])
  have h1 : ((i : Int) < (a.length : Int)) := by omega
  have h2 : (0 : Int) ≤ (i : Int) := by omega
  simp only [L_w_eqIntS_0, dec_true h1, dec_true h2, cond_true]
  simp
theorem eqReq_sm (a : TReq) (h : Sm maxLen kReq a) : P_w_eqReq a a = some (true, ()) := by
  simp [P_w_eqReq, B_w_eqReq, bindO]
theorem eqUp_refl (a : TUp) (h : Sm maxLen kUp a) : P_w_eqUp a a = some (true, ()) := by
  simp [P_w_eqUp, B_w_eqUp, bindO, eqByteS_sm a.2.2.1 (Sm.l (Sm.r (Sm.r h)))]
theorem eqUpS_refl (a : List TUp) (h : Sm maxLen (.sl 159 kUp) a) : P_w_eqUpS a a = some (true, ()) := by
  simp only [P_w_eqUpS, B_w_eqUpS, decide_true, Bool.not_true, cond_false]
  refine eqS_gen _ a.length h.1 (fun i hi => ?_) (by simp [L_w_eqUpS_0])
  have h1 : ((i : Int) < (a.length : Int)) := by omega
  have h2 : (0 : Int) ≤ (i : Int) := by omega
  simp only [L_w_eqUpS_0, dec_true h1, dec_true h2, cond_true]
  rw [rd_nat (k := kUp) (xs := a) hi, eqUp_refl _ (h.2 _ (List.getElem_mem hi))]
  rfl
theorem eqStore_refl (a : TStore) (h : Sm maxLen kStore a) : P_w_eqStore a a = some (true, ()) := by
  simp [P_w_eqStore, B_w_eqStore, bindO, eqDisk_refl a.1 (Sm.l h), eqUpS_refl a.2.2.2 (Sm.r (Sm.r (Sm.r h)))]
theorem eqServer_refl (a : TServer) (h : Sm maxLen kServer a) : P_w_eqServer a a = some (true, ()) := by
  simp [P_w_eqServer, B_w_eqServer, bindO, eqStore_refl a.1 (Sm.l h), eqHeldS_refl a.2 (Sm.r h)]
theorem eqWant_refl (a : TWant) (h : Sm maxLen kWant a) : P_w_eqWant a a = some (true, ()) := by
  simp [P_w_eqWant, B_w_eqWant, bindO, eqReq_sm a.2.1 (Sm.l (Sm.r h)), eqByteS_sm a.2.2 (Sm.r (Sm.r h))]
theorem eqWantS_refl (a : List TWant) (h : Sm maxLen (.sl 86 kWant) a) : P_w_eqWantS a a = some (true, ()) := by
  simp only [P_w_eqWantS, B_w_eqWantS, decide_true, Bool.not_true, cond_false]
  refine eqS_gen _ a.length h.1 (fun i hi => ?_) (by simp [L_w_eqWantS_0])
  have h1 : ((i : Int) < (a.length : Int)) := by omega
  have h2 : (0 : Int) ≤ (i : Int) := by omega
  simp only [L_w_eqWantS_0, dec_true h1, dec_true h2, cond_true]
  rw [rd_nat (k := kWant) (xs := a) hi, eqWant_refl _ (h.2 _ (List.getElem_mem hi))]
  rfl
theorem eqWorld_refl (a : TWorld) (h : Sm maxLen kWorld a) : P_w_eqWorld a a = some (true, ()) := by
  simp [P_w_eqWorld, B_w_eqWorld, bindO, eqServer_refl a.1 (Sm.l h), eqClientS_refl a.2.1 (Sm.l (Sm.r h)), eqBoolS_refl a.2.2.1 (Sm.l (Sm.r (Sm.r h))), eqWantS_refl a.2.2.2.1 (Sm.l (Sm.r (Sm.r (Sm.r h)))), eqHeldS_refl a.2.2.2.2.1 (Sm.l (Sm.r (Sm.r (Sm.r (Sm.r h))))), eqIntS_refl a.2.2.2.2.2 (Sm.r (Sm.r (Sm.r (Sm.r (Sm.r h)))))]

theorem l1In_eq (a b c : Int) : P_s_l1In a b c = some (decide (b ≤ a ∧ a ≤ c), ()) := by
  simp only [P_s_l1In, B_s_l1In]
  by_cases h : b ≤ a <;> by_cases h2 : a ≤ c <;> simp [h, h2]
theorem inRange_eq (a b c : Int) : P_i_inRange a b c = some (decide (b ≤ a ∧ a ≤ c), ()) := l1In_eq a b c
def idCh (s : ByteArray) (i : Nat) : Bool := decide (97 ≤ bt s i ∧ bt s i ≤ 122) || decide (48 ≤ bt s i ∧ bt s i ≤ 57)
def idB (s : ByteArray) : Bool := (List.range s.size).all (idCh s) && decide (1 ≤ (s.size : Int) ∧ (s.size : Int) ≤ 8)
theorem l11Id_step (s : ByteArray) (h : s.size ≤ maxLen) (i : Nat) (hi : i < s.size) : L_s_l11Id_0 P_s_l1In s ((i : Int), ()) = if idCh s i then some (.inl (((i + 1 : Nat) : Int), ())) else some (.inr (.inr (false, ()))) := by
  have h1 : ((i : Int) < (s.size : Int)) := by omega
  have h2 : (0 : Int) ≤ (i : Int) := by omega
  simp only [L_s_l11Id_0, dec_true h1, dec_true h2, cond_true, bt_w64, l1In_eq, bindO]
  rw [w64 (by omega) (by simp only [maxLen] at h; omega)]
  unfold idCh
  cases decide (97 ≤ bt s i ∧ bt s i ≤ 122) <;> cases decide (48 ≤ bt s i ∧ bt s i ≤ 57) <;> simp
theorem idOk_step (s : ByteArray) (h : s.size ≤ maxLen) (i : Nat) (hi : i < s.size) : L_i_idOk_0 s ((i : Int), ()) = if idCh s i then some (.inl (((i + 1 : Nat) : Int), ())) else some (.inr (.inr (false, ()))) := by
  have h1 : ((i : Int) < (s.size : Int)) := by omega
  have h2 : (0 : Int) ≤ (i : Int) := by omega
  simp only [L_i_idOk_0, dec_true h1, dec_true h2, cond_true]
  rw [w64 (by omega) (by simp only [maxLen] at h; omega)]
  unfold idCh
  by_cases a : bt s i ≥ 97 <;> by_cases b : bt s i ≤ 122 <;> by_cases c : bt s i ≥ 48 <;> by_cases d : bt s i ≤ 57 <;> simp [a, b, c, d]
theorem id_of {s : ByteArray} {f : Int × Unit → Option ((Int × Unit) ⊕ (Unit ⊕ (Bool × Unit)))} (hs : ∀ i : Nat, i < s.size → f ((i : Int), ()) = if idCh s i then some (.inl (((i + 1 : Nat) : Int), ())) else some (.inr (.inr (false, ()))))
    (he : f ((s.size : Int), ()) = some (.inr (.inl ()))) (g : Unit → Option (Bool × Unit)) (hg : g () = some (decide (1 ≤ (s.size : Int) ∧ (s.size : Int) ≤ 8), ())) : bindS (loopO f (0, ())) g = some (idB s, ()) := by
  obtain ⟨i, h1, h2, h3, h4⟩ := loopO_find f (fun i => ((i : Int), ())) s.size (fun i => if i < s.size then .inr (false, ()) else .inl ()) (idCh s) (fun i hi => by
    simp only [if_pos hi]; exact hs i hi) (by simp only [Nat.lt_irrefl, if_false]; exact he)
  have h4' : loopO f (0, ()) = some (if i < s.size then .inr (false, ()) else .inl ()) := h4
  rw [h4']
  unfold idB
  by_cases hi : i < s.size
  · rw [if_pos hi]
    have : (List.range s.size).all (idCh s) = false := by
      rw [List.all_eq_false]
      exact ⟨i, List.mem_range.2 hi, by simp [h3 hi]⟩
    simp [bindS, this]
  · rw [if_neg hi]
    have : (List.range s.size).all (idCh s) = true := by
      rw [List.all_eq_true]
      intro j hj
      exact h2 j (by have := List.mem_range.1 hj; omega)
    simp only [bindS, this, hg, Bool.true_and]
theorem l11Id_eq (s : ByteArray) (h : s.size ≤ maxLen) : P_s_l11Id s = some (idB s, ()) := by
  simp only [P_s_l11Id, B_s_l11Id]
  exact id_of (l11Id_step s h) (by simp [L_s_l11Id_0]) _ (by simp only [l1In_eq, bindO])
theorem idOk_eq (s : ByteArray) (h : s.size ≤ maxLen) : P_i_idOk s = some (idB s, ()) := by
  simp only [P_i_idOk, B_i_idOk]
  exact id_of (idOk_step s h) (by simp [L_i_idOk_0]) _ (by simp only [inRange_eq, bindO])
def clientOkB (c : Client) : Bool := idB c.1 && decide ((c.2.1.length : Int) ≤ 400) && decide (1 ≤ c.2.2.1 ∧ c.2.2.1 ≤ 6) && decide (0 ≤ c.2.2.2 ∧ c.2.2.2 ≤ (c.2.1.length : Int))
theorem s_ClientOk_eq (c : Client) (h : c.1.size ≤ maxLen) : P_s_ClientOk c = some (clientOkB c, ()) := by
  simp only [P_s_ClientOk, B_s_ClientOk, l11Id_eq _ h, l1In_eq, bindO, clientOkB]
  cases idB c.1 <;> cases decide ((c.2.1.length : Int) ≤ 400) <;> cases decide (1 ≤ c.2.2.1 ∧ c.2.2.1 ≤ 6) <;> simp
theorem i_ClientOk_eq (c : Client) (h : c.1.size ≤ maxLen) : P_i_ClientOk c = some (clientOkB c, ()) := by
  simp only [P_i_ClientOk, B_i_ClientOk, idOk_eq _ h, inRange_eq, bindO, clientOkB]
  cases idB c.1 <;> cases decide ((c.2.1.length : Int) ≤ 400) <;> cases decide (1 ≤ c.2.2.1 ∧ c.2.2.1 ≤ 6) <;> simp

theorem eqO_self {R : Type} (a : Option R) : eqO a a = a := by
  unfold eqO
  rw [if_pos rfl]
theorem clone_byte_eq (a : List Int) (h : a.length ≤ 140737488355328) : P_slices_Clone_byte_byte a = some (a, ()) := by
  simp only [P_slices_Clone_byte_byte, B_slices_Clone_byte_byte]
  have e : (bif decide (([] : List Int).length + a.length ≤ 9223372036854775807) then bif decide ((([] : List Int).length + a.length) * 1 ≤ 140737488355328) then some (([] ++ a), ()) else none else none) = some (a, ()) := by
    rw [dec_true (by simp; omega), dec_true (by simp; omega)]
    simp
  rw [e]
  cases a with
  | nil => simp [eqO_self]
  | cons x xs => simp
def overB (c : Client) : Bool := decide (c.2.2.1 = 5) || decide (c.2.2.1 = 6)
theorem l17Copy_eq (c : Client) (h2 : c.2.1.length ≤ 140737488355328) : P_s_l17Copy c = some (c, ()) := by
  simp only [P_s_l17Copy, B_s_l17Copy]
  rw [dec_true (by simp; omega), dec_true (by simp; omega)]
  simp
theorem copyClient_eq (c : Client) (h2 : c.2.1.length ≤ 140737488355328) : P_i_copyClient c = some (c, ()) := by
  simp only [P_i_copyClient, B_i_copyClient, clone_byte_eq _ h2, bindO]

def bigAt (n : Int) (k j : Nat) : Int := IntKind.u8.wrap (n.fdiv (2 ^ (8 * (k - 1 - j))))
def big (n : Int) (k : Nat) : List Int := (List.range k).map (bigAt n k)
theorem big_len (n : Int) (k : Nat) : (big n k).length = k := by simp [big]
theorem wu64 {n : Int} (h0 : 0 ≤ n) (h1 : n < 18446744073709551616) : IntKind.u64.wrap n = n := by
  simp only [IntKind.wrap, IntKind.bits, IntKind.signed]
  simp
  omega
theorem putLoop (v : Int) (b : List Int) (k : Nat) (hk : k ≤ 8) (hb : b.length + 8 ≤ 140737488355328) : loopO (L_s_PutBig_0 (v, ())) ((k : Int) - 1, b, ()) = some (b ++ big v k, ()) := by
  have key := loopO_count (L_s_PutBig_0 (v, ())) (fun j => ((k : Int) - 1 - (j : Int), b ++ (List.range j).map (bigAt v k), ())) k (b ++ big v k, ()) (fun j hj => ?_) ?_
  · simpa using key
  · have h1 : (k : Int) - 1 - (j : Int) ≥ 0 := by omega
    have e1 : (k : Int) - 1 - (j : Int) = ((k - 1 - j : Nat) : Int) := by omega
    have hs : IntKind.u64.wrap (IntKind.i64.wrap (8 * ((k : Int) - 1 - (j : Int)))) = ((8 * (k - 1 - j) : Nat) : Int) := by
      rw [w64 (by omega) (by omega), wu64 (by omega) (by omega)]
      omega
    have hm : min (8 * (k - 1 - j)) IntKind.i64.bits = 8 * (k - 1 - j) := Nat.min_eq_left (by simp only [IntKind.bits]; omega)
    simp only [L_s_PutBig_0, dec_true h1, cond_true, hs, Int.toNat_natCast, hm]
    rw [dec_false (by omega)]
    simp only [cond_false]
    have hl : (b ++ (List.range j).map (bigAt v k)).length = b.length + j := by simp
    rw [dec_true (by rw [hl]; simp; omega), dec_true (by rw [hl]; simp; omega)]
    simp only [cond_true]
    rw [w64 (by omega) (by omega), List.range_succ, List.map_append, List.append_assoc]
    have e2 : (k : Int) - 1 - (j : Int) - 1 = (k : Int) - 1 - ((j + 1 : Nat) : Int) := by omega
    rw [e2]
    rfl
  · have h1 : ¬ ((k : Int) - 1 - (k : Int) ≥ 0) := by omega
    simp only [L_s_PutBig_0, dec_false h1, cond_false]
    rfl
def clamp (n : Int) : Int := if n < 0 then 0 else n
theorem s_PutBig_eq (b : List Int) (n : Int) (k : Nat) (h1 : 1 ≤ k) (hk : k ≤ 8) (hb : b.length + 8 ≤ 140737488355328) : P_s_PutBig b n (k : Int) = some (b ++ big (clamp n) k, ()) := by
  simp only [P_s_PutBig, B_s_PutBig]
  rw [dec_true (by simp; omega), dec_true (by simp; omega)]
  have e : (bif decide (n < 0) then some ((0 : Int), ()) else some (n, ())) = some (clamp n, ()) := by
    unfold clamp
    by_cases h : n < 0 <;> simp [h]
  simp only [cond_true, e, bindO, l1In_eq]
  rw [dec_true (by omega)]
  simp only [Bool.not_true, cond_false, List.nil_append]
  rw [w64 (by omega) (by omega)]
  exact putLoop _ b k hk hb
theorem i_putBig_eq (b : List Int) (n : Int) (k : Nat) (hk : k ≤ 8) (hb : b.length + 8 ≤ 140737488355328) : P_i_putBig b n (k : Int) = some (b ++ big (clamp n) k, ()) := by
  simp only [P_i_putBig, B_i_putBig]
  have e : L_i_putBig_0 n = L_s_PutBig_0 (clamp n, ()) := by
    funext l
    have : (bif decide (0 > n) then (0 : Int) else n) = clamp n := by
      unfold clamp
      by_cases h : n < 0 <;> simp [h]
    simp only [L_i_putBig_0, L_s_PutBig_0, this]
  rw [e, w64 (by omega) (by omega)]
  exact putLoop _ b k hk hb
abbrev Frame := Int × Int × Int × List Int
def frameOkB (f : Frame) : Bool := decide (0 ≤ f.1 ∧ f.1 ≤ 255) && decide (0 ≤ f.2.1 ∧ f.2.1 ≤ 255) && decide (0 ≤ f.2.2.1 ∧ f.2.2.1 ≤ 2147483647) && decide ((f.2.2.2.length : Int) ≤ 1000)
def frameB (f : Frame) : List Int := big (f.2.2.2.length : Int) 3 ++ [IntKind.u8.wrap f.1, IntKind.u8.wrap f.2.1] ++ big (clamp f.2.2.1) 4 ++ f.2.2.2

theorem wI64 {n : Nat} (h : n < 9223372036854775808) : IntKind.i64.wrap (n : Int) = (n : Int) := w64 (by omega) (by omega)
theorem wU32 {n : Nat} (h : n < 4294967296) : IntKind.u32.wrap (n : Int) = (n : Int) := by
  simp only [IntKind.wrap, IntKind.bits, IntKind.signed]
  simp
  omega
theorem bits_nat {w x : Nat} (h : x < 2 ^ w) : (BitVec.ofInt w (x : Int)).toNat = x := by
  rw [BitVec.ofInt_natCast, BitVec.toNat_ofNat]
  exact Nat.mod_eq_of_lt h
theorem bXor_i64 {x y : Nat} (hx : x < 4294967296) (hy : y < 4294967296) : bXor .i64 (x : Int) (y : Int) = ((x ^^^ y : Nat) : Int) := by
  have h : x ^^^ y < 2 ^ 32 := Nat.xor_lt_two_pow (by omega) (by omega)
  unfold bXor
  rw [BitVec.toNat_xor, bits_nat (by simp only [IntKind.bits]; omega), bits_nat (by simp only [IntKind.bits]; omega)]
  exact wI64 (by omega)
theorem bXor_u32 {x y : Nat} (hx : x < 4294967296) (hy : y < 4294967296) : bXor .u32 (x : Int) (y : Int) = ((x ^^^ y : Nat) : Int) := by
  have h : x ^^^ y < 2 ^ 32 := Nat.xor_lt_two_pow (by omega) (by omega)
  unfold bXor
  rw [BitVec.toNat_xor, bits_nat (by simp only [IntKind.bits]; omega), bits_nat (by simp only [IntKind.bits]; omega)]
  exact wU32 (by omega)
theorem bAnd_i64 {x y : Nat} (hx : x < 4294967296) (hy : y < 4294967296) : bAnd .i64 (x : Int) (y : Int) = ((x &&& y : Nat) : Int) := by
  have h : x &&& y < 2 ^ 32 := Nat.and_lt_two_pow _ (by omega)
  unfold bAnd
  rw [BitVec.toNat_and, bits_nat (by simp only [IntKind.bits]; omega), bits_nat (by simp only [IntKind.bits]; omega)]
  exact wI64 (by omega)
theorem bAnd_u32 {x y : Nat} (hx : x < 4294967296) (hy : y < 4294967296) : bAnd .u32 (x : Int) (y : Int) = ((x &&& y : Nat) : Int) := by
  have h : x &&& y < 2 ^ 32 := Nat.and_lt_two_pow _ (by omega)
  unfold bAnd
  rw [BitVec.toNat_and, bits_nat (by simp only [IntKind.bits]; omega), bits_nat (by simp only [IntKind.bits]; omega)]
  exact wU32 (by omega)
def crcStep (c : Nat) : Nat := if c &&& 1 = 1 then (c / 2) ^^^ 2197175160 else c / 2
def crcN (c : Nat) : Nat → Nat
  | 0 => c
  | i + 1 => crcStep (crcN c i)
theorem crcStep_lt {c : Nat} (h : c < 4294967296) : crcStep c < 4294967296 := by
  unfold crcStep
  split
  · have : (c / 2) ^^^ 2197175160 < 2 ^ 32 := Nat.xor_lt_two_pow (by omega) (by omega)
    omega
  · omega
theorem crcN_lt {c : Nat} (h : c < 4294967296) : ∀ i, crcN c i < 4294967296
  | 0 => h
  | i + 1 => crcStep_lt (crcN_lt h i)
theorem half (c : Nat) : ((c : Int)).fdiv 2 = ((c / 2 : Nat) : Int) := by
  rw [Int.fdiv_eq_ediv_of_nonneg _ (by omega)]
  omega
def crcL (a : List Int) : Nat := a.foldl (fun c x => crcN (c ^^^ x.toNat) 8) 4294967295
theorem crcF_lt (a : List Int) (ha : Byt a) : ∀ c, c < 4294967296 → a.foldl (fun c x => crcN (c ^^^ x.toNat) 8) c < 4294967296 := by
  induction a with
  | nil => intro c h; exact h
  | cons x a ih =>
    intro c h
    have hx := ha x (by simp)
    refine ih (fun y hy => ha y (by simp [hy])) _ (crcN_lt ?_ 8)
    have : c ^^^ x.toNat < 2 ^ 32 := Nat.xor_lt_two_pow (by omega) (by omega)
    omega
theorem byt_take {a : List Int} (h : Byt a) (i : Nat) : Byt (a.take i) := fun x hx => h x (List.mem_of_mem_take hx)
theorem crcL_lt {a : List Int} (h : Byt a) : crcL a < 4294967296 := crcF_lt a h _ (by omega)
theorem crcL_take {a : List Int} {i : Nat} (hi : i < a.length) : crcL (a.take (i + 1)) = crcN (crcL (a.take i) ^^^ a[i].toNat) 8 := by
  unfold crcL
  rw [List.take_succ_eq_append_getElem hi, List.foldl_append]
  rfl
theorem s_inner (l0 : Int × Int × Unit) (c : Nat) (h : c < 4294967296) : loopO (L_s_Crc_0 l0) ((c : Int), 0, ()) = some (.inl ((crcN c 8 : Int), IntKind.i64.wrap (l0.2.1 + 1), ())) := by
  refine loopO_count (L_s_Crc_0 l0) (fun i => ((crcN c i : Int), (i : Int), ())) 8 _ (fun i hi => ?_) ?_
  · have hl := crcN_lt h i
    have h1 : (i : Int) < 8 := by omega
    simp only [L_s_Crc_0, dec_true h1, cond_true, half]
    rw [show (1 : Int) = ((1 : Nat) : Int) from rfl, bAnd_i64 hl (by omega), show (2197175160 : Int) = ((2197175160 : Nat) : Int) from rfl, bXor_i64 (by omega) (by omega)]
    rw [show ((i : Int) + ((1 : Nat) : Int)) = ((i + 1 : Nat) : Int) by omega, wI64 (by omega)]
    simp only [crcN, crcStep]
    by_cases hb : crcN c i &&& 1 = 1
    · rw [dec_true (by rw [hb]), if_pos hb]; rfl
    · rw [dec_false (by omega), if_neg hb]; rfl
  · rfl
theorem s_Crc_eq (a : List Int) (ha : Byt a) (h : a.length ≤ maxLen) : P_s_Crc a = some (((crcL a ^^^ 4294967295 : Nat) : Int), ()) := by
  simp only [P_s_Crc, B_s_Crc]
  have key := loopO_count (L_s_Crc_1 a) (fun i => ((crcL (a.take i) : Int), (i : Int), ())) a.length ((crcL a : Int), ()) (fun i hi => ?_) ?_
  · have e : loopO (L_s_Crc_1 a) (4294967295, 0, ()) = some ((crcL a : Int), ()) := key
    rw [e]
    simp only [bindO]
    rw [show (4294967295 : Int) = ((4294967295 : Nat) : Int) from rfl, bXor_i64 (crcL_lt ha) (by omega)]
  · have h1 : ((i : Int) < (a.length : Int)) := by omega
    have h2 : (0 : Int) ≤ (i : Int) := by omega
    have hx := ha a[i] (List.getElem_mem hi)
    have hc := crcL_lt (byt_take ha i)
    simp only [L_s_Crc_1, dec_true h1, dec_true h2, cond_true, rd_int hi]
    have hxor : crcL (a.take i) ^^^ a[i].toNat < 2 ^ 32 := Nat.xor_lt_two_pow (by omega) (by omega)
    rw [w64 (by omega) (by omega), show a[i] = ((a[i].toNat : Nat) : Int) by omega, bXor_i64 hc (by omega)]
    rw [s_inner _ _ (by omega)]
    simp only
    rw [show ((i : Int) + 1) = ((i + 1 : Nat) : Int) by omega, wI64 (by simp only [maxLen] at h; omega), crcL_take hi]
  · simp [L_s_Crc_1]
theorem i_inner (l0 : Int × Int × Unit) (c : Nat) (h : c < 4294967296) : loopO (L_i_Crc_0 l0) ((c : Int), 0, ()) = some (.inl ((crcN c 8 : Int), IntKind.i64.wrap (l0.2.1 + 1), ())) := by
  refine loopO_count (L_i_Crc_0 l0) (fun i => ((crcN c i : Int), (i : Int), ())) 8 _ (fun i hi => ?_) ?_
  · have hl := crcN_lt h i
    have h1 : (i : Int) < 8 := by omega
    simp only [L_i_Crc_0, dec_true h1, cond_true, half]
    rw [show (1 : Int) = ((1 : Nat) : Int) from rfl, bAnd_u32 hl (by omega), show (2197175160 : Int) = ((2197175160 : Nat) : Int) from rfl, bXor_u32 (by omega) (by omega)]
    rw [show ((i : Int) + ((1 : Nat) : Int)) = ((i + 1 : Nat) : Int) by omega, wI64 (by omega)]
    simp only [crcN, crcStep]
    by_cases hb : crcN c i &&& 1 = 1
    · rw [dec_true (by rw [hb]), if_pos hb]; rfl
    · rw [dec_false (by omega), if_neg hb]; rfl
  · rfl
theorem i_Crc_eq (a : List Int) (ha : Byt a) (h : a.length ≤ maxLen) : P_i_Crc a = some (((crcL a ^^^ 4294967295 : Nat) : Int), ()) := by
  simp only [P_i_Crc, B_i_Crc]
  have key := loopO_count (L_i_Crc_1 a) (fun i => ((crcL (a.take i) : Int), (i : Int), ())) a.length ((crcL a : Int), ()) (fun i hi => ?_) ?_
  · have e : loopO (L_i_Crc_1 a) (4294967295, 0, ()) = some ((crcL a : Int), ()) := key
    rw [e]
    simp only [bindO]
    have hm : IntKind.u32.max = ((4294967295 : Nat) : Int) := rfl
    have hxor : crcL a ^^^ 4294967295 < 2 ^ 32 := Nat.xor_lt_two_pow (by have := crcL_lt ha; omega) (by omega)
    rw [hm, bXor_u32 (by omega) (crcL_lt ha), Nat.xor_comm, wI64 (by omega)]
  · have h1 : ((i : Int) < (a.length : Int)) := by omega
    have h2 : (0 : Int) ≤ (i : Int) := by omega
    have hx := ha a[i] (List.getElem_mem hi)
    have hc := crcL_lt (byt_take ha i)
    simp only [L_i_Crc_1, dec_true h1, dec_true h2, cond_true, rd_int hi]
    have hxor : crcL (a.take i) ^^^ a[i].toNat < 2 ^ 32 := Nat.xor_lt_two_pow (by omega) (by omega)
    rw [show a[i] = ((a[i].toNat : Nat) : Int) by omega, wU32 (by omega), bXor_u32 hc (by omega)]
    rw [i_inner _ _ (by omega)]
    simp only
    rw [show ((i : Int) + 1) = ((i + 1 : Nat) : Int) by omega, wI64 (by simp only [maxLen] at h; omega), crcL_take hi]
  · simp [L_i_Crc_1]

abbrev Req := Int × ByteArray × Int
def noReq : Req × List Int × Bool × Unit := ((0, ⟨#[]⟩, 0), [], false, ())
def nextReq (c : Client) : Req × List Int × Bool × Unit :=
  if clientOkB c = false then noReq
  else if c.2.2.1 = 1 then ((1, c.1, (c.2.1.length : Int)), [], true, ())
  else if c.2.2.1 = 2 then ((2, c.1, 0), [], true, ())
  else if c.2.2.1 = 3 then ((3, c.1, c.2.2.2), (c.2.1.take (min (c.2.2.2.toNat + 24) c.2.1.length)).drop c.2.2.2.toNat, true, ())
  else if c.2.2.1 = 4 then ((4, c.1, ((crcL c.2.1 ^^^ 4294967295 : Nat) : Int)), [], true, ())
  else noReq
theorem ok_off {c : Client} (h : clientOkB c = true) : c.2.1.length ≤ 400 ∧ 1 ≤ c.2.2.1 ∧ c.2.2.1 ≤ 6 ∧ 0 ≤ c.2.2.2 ∧ c.2.2.2 ≤ (c.2.1.length : Int) := by
  simp only [clientOkB, Bool.and_eq_true, decide_eq_true_eq] at h
  omega
theorem nextReq_len (c : Client) : (nextReq c).2.1.length ≤ c.2.1.length := by
  unfold nextReq noReq
  repeat' split
  all_goals simp
  omega

abbrev Resp := Int × Int
def respOkB (r : Resp) : Bool := decide (100 ≤ r.1 ∧ r.1 ≤ 599) && decide (-1 ≤ r.2 ∧ r.2 ≤ 1000000000)
theorem s_RespOk_eq (r : Resp) : P_s_RespOk r = some (respOkB r, ()) := by
  simp only [P_s_RespOk, B_s_RespOk, l1In_eq, bindO, respOkB]
  cases decide (100 ≤ r.1 ∧ r.1 ≤ 599) <;> simp
theorem i_RespOk_eq (r : Resp) : P_i_RespOk r = some (respOkB r, ()) := by
  simp only [P_i_RespOk, B_i_RespOk, inRange_eq, bindO, respOkB]
  cases decide (100 ≤ r.1 ∧ r.1 ≤ 599) <;> simp
def far (c : Client) (off : Int) : Client := if 0 ≤ off ∧ off ≤ (c.2.1.length : Int) then (if off = (c.2.1.length : Int) then (c.1, c.2.1, 4, off) else (c.1, c.2.1, 3, off)) else (c.1, c.2.1, 6, c.2.2.2)
theorem far_len (c : Client) (off : Int) : (far c off).2.1 = c.2.1 := by
  unfold far
  repeat' split
  all_goals rfl
def nextStep (step status : Int) : Int :=
  if status = 507 then (if step = 2 then 6 else step)
  else if status = 404 then (if step = 1 then 6 else 1)
  else if status = 409 then (if step = 3 then 0 else if step = 2 then 6 else 2)
  else if status = 201 then (if step = 1 then 0 else 6)
  else if status = 204 then (if step = 3 then 0 else 6)
  else if status = 200 then (if step = 2 then 0 else if step = 4 then 5 else 6)
  else 6
def hear (c : Client) (r : Resp) : Client := if nextStep c.2.2.1 r.1 = 0 then far c r.2 else (c.1, c.2.1, nextStep c.2.2.1 r.1, c.2.2.2)
def hearResp (c : Client) (r : Resp) : Client := if clientOkB c && respOkB r && !overB c then hear c r else c
theorem hearResp_len (c : Client) (r : Resp) : (hearResp c r).2.1.length = c.2.1.length := by
  unfold hearResp hear
  split
  · split
    · rw [far_len]
    · rfl
  · rfl

abbrev World' := TWorld
theorem smW_cls {N : Nat} {w : TWorld} (h : Sm N kWorld w) : Sm N (.sl 0 kClient) w.2.1 := Sm.l (Sm.r h)
theorem smW_told {N : Nat} {w : TWorld} (h : Sm N kWorld w) : w.2.2.2.2.2.length ≤ N := (Sm.r (Sm.r (Sm.r (Sm.r (Sm.r h))))).1
theorem smW_ups {N : Nat} {w : TWorld} (h : Sm N kWorld w) : Sm N (.sl 0 kUp) w.1.1.2.2.2 := Sm.r (Sm.r (Sm.r (Sm.l (Sm.l h))))
theorem s_NoneFails_ok (w : TWorld) (h : Sm 1048576 kWorld w) : ∃ b, P_s_NoneFails w = some (b, ()) := by
  refine ⟨_, loopB (L_s_NoneFails_0 w) w.2.1.length (by have := (smW_cls h).1; simp only [maxLen]; omega) (fun i => !decide ((rd kClient w.2.1 (i : Int)).2.2.1 = 6)) (fun i hi => ?_) (by simp [L_s_NoneFails_0])⟩
  have h1 : ((i : Int) < (w.2.1.length : Int)) := by omega
  have h2 : (0 : Int) ≤ (i : Int) := by omega
  simp only [L_s_NoneFails_0, dec_true h1, dec_true h2, cond_true]
  cases decide ((rd kClient w.2.1 (i : Int)).2.2.1 = 6) <;> simp
theorem i_NoneFails_eq (w : TWorld) : P_i_NoneFails w = P_s_NoneFails w := rfl
/-- Where an upload of a name is. -/
def upIx (us : List TUp) (id : ByteArray) : Nat := firstN (fun i => !((rd kUp us (i : Int)).1.toList == id.toList)) 0 us.length
def noUp : TUp × Bool × Unit := ((⟨#[]⟩, 0, [], false), false, ())
def upAt (st : TStore) (id : ByteArray) : TUp × Bool × Unit := if upIx st.2.2.2 id < st.2.2.2.length then (rd kUp st.2.2.2 (upIx st.2.2.2 id : Int), true, ()) else noUp
theorem l14At_eq (us : List TUp) (id : ByteArray) (h : us.length ≤ maxLen) : P_s_l14At us id = some (if upIx us id < us.length then (upIx us id : Int) else -1, ()) := by
  simp only [P_s_l14At, B_s_l14At]
  refine loopO_first (L_s_l14At_0 us id) (fun i => ((i : Int), ())) us.length (fun i => (if i < us.length then (i : Int) else -1, ())) (fun i => !((rd kUp us (i : Int)).1.toList == id.toList)) (fun i hi => ?_) ?_
  · have h1 : ((i : Int) < (us.length : Int)) := by omega
    have h2 : (0 : Int) ≤ (i : Int) := by omega
    simp only [L_s_l14At_0, dec_true h1, dec_true h2, cond_true, if_pos hi]
    rw [w64 (by omega) (by simp only [maxLen] at h; omega)]
    cases ((rd kUp us (i : Int)).1.toList == id.toList) <;> simp
  · simp [L_s_l14At_0]
theorem rdUp_sm {us : List TUp} {N : Nat} (h : Sm N (.sl 0 kUp) us) {i : Nat} (hi : i < us.length) : Sm N kUp (rd kUp us (i : Int)) := by
  rw [rd_nat (k := kUp) (xs := us) hi]
  exact h.2 _ (List.getElem_mem hi)
theorem s_UpAt_eq (st : TStore) (id : ByteArray) (h : Sm 1048576 (.sl 0 kUp) st.2.2.2) : P_s_UpAt st id = some (upAt st id) := by
  have hl : st.2.2.2.length ≤ 1048576 := h.1
  simp only [P_s_UpAt, B_s_UpAt]
  rw [l14At_eq _ _ (by simp only [maxLen]; omega)]
  simp only [bindO, upAt]
  by_cases hi : upIx st.2.2.2 id < st.2.2.2.length
  · have hd : List.length (rd kUp st.2.2.2 (upIx st.2.2.2 id : Int)).2.2.1 ≤ 1048576 := (Sm.l (Sm.r (Sm.r (rdUp_sm h hi)))).1
    rw [if_pos hi, if_pos hi, dec_false (by omega), dec_true (show (0 : Int) ≤ (upIx st.2.2.2 id : Int) by omega), dec_true (by omega), dec_true (by simp; omega), dec_true (by simp; omega)]
    simp
  · rw [if_neg hi, if_neg hi]
    rfl
theorem copyUp_eq (u : TUp) (h : Sm 1048576 kUp u) : P_i_copyUp u = some (u, ()) := by
  have hd : List.length u.2.2.1 ≤ 1048576 := (Sm.l (Sm.r (Sm.r h))).1
  simp only [P_i_copyUp, B_i_copyUp, clone_byte_eq _ (show List.length u.2.2.1 ≤ 140737488355328 by omega), bindO]
theorem i_UpAt_eq (st : TStore) (id : ByteArray) (h : Sm 1048576 (.sl 0 kUp) st.2.2.2) : P_i_UpAt st id = some (upAt st id) := by
  have hl : st.2.2.2.length ≤ 1048576 := h.1
  simp only [P_i_UpAt, B_i_UpAt]
  have e := loopO_first (L_i_UpAt_0 P_i_copyUp st id) (fun i => ((i : Int), ())) st.2.2.2.length (fun i => if i < st.2.2.2.length then .inr (rd kUp st.2.2.2 (i : Int), true, ()) else .inl ()) (fun i => !((rd kUp st.2.2.2 (i : Int)).1.toList == id.toList)) (fun i hi => ?_) ?_
  · have e' : loopO (L_i_UpAt_0 P_i_copyUp st id) (0, ()) = _ := e
    rw [e']
    simp only [upAt]
    by_cases hi : upIx st.2.2.2 id < st.2.2.2.length
    · rw [if_pos hi]
      have hi' : firstN (fun i => !((rd kUp st.2.2.2 (i : Int)).1.toList == id.toList)) 0 st.2.2.2.length < st.2.2.2.length := hi
      rw [if_pos hi']
      rfl
    · rw [if_neg hi]
      have hi' : ¬ firstN (fun i => !((rd kUp st.2.2.2 (i : Int)).1.toList == id.toList)) 0 st.2.2.2.length < st.2.2.2.length := hi
      rw [if_neg hi']
      rfl
  · have h1 : ((i : Int) < (st.2.2.2.length : Int)) := by omega
    have h2 : (0 : Int) ≤ (i : Int) := by omega
    simp only [L_i_UpAt_0, dec_true h1, dec_true h2, cond_true, if_pos hi]
    rw [w64 (by omega) (by omega), copyUp_eq _ (rdUp_sm h hi)]
    cases ((rd kUp st.2.2.2 (i : Int)).1.toList == id.toList) <;> simp [bindO]
  · simp [L_i_UpAt_0]
theorem upAt_sm {st : TStore} (h : Sm 1048576 (.sl 0 kUp) st.2.2.2) (id : ByteArray) : Sm 1048576 kUp (upAt st id).1 := by
  unfold upAt
  split
  · rename_i hi
    exact rdUp_sm h hi
  · simp [noUp, Sm]
    exact Nat.zero_le _
theorem upAt_data {st : TStore} (h : Sm 1048576 (.sl 0 kUp) st.2.2.2) (id : ByteArray) : List.length (upAt st id).1.2.2.1 ≤ 1048576 := (Sm.l (Sm.r (Sm.r (upAt_sm h id)))).1
theorem file_len {w : TWorld} (h : Sm 1048576 kWorld w) {i : Nat} (hi : i < w.2.1.length) : List.length (rd kClient w.2.1 (i : Int)).2.1 ≤ 1048576 := by
  rw [rd_nat (k := kClient) (xs := w.2.1) hi]
  have := (smW_cls h).2 _ (List.getElem_mem hi)
  exact (Sm.l (Sm.r this)).1

def upOf (w : TWorld) (i : Nat) : TUp × Bool × Unit := upAt w.1.1 (rd kClient w.2.1 (i : Int)).1
def toldAt (w : TWorld) (i : Nat) : Int := rd (.int .i64) w.2.2.2.2.2 (i : Int)
def nl (w : TWorld) (i : Nat) : Bool := decide (toldAt w i = -1) || ((upOf w i).2.1 && !decide ((List.length (upOf w i).1.2.2.1 : Int) < toldAt w i))
theorem s_NotLost_eq (w : TWorld) (h : Sm 1048576 kWorld w) : P_s_NotLost w = some ((List.range (min w.2.1.length w.2.2.2.2.2.length)).all (nl w), ()) := by
  have hl : w.2.1.length ≤ 1048576 := (smW_cls h).1
  refine loopB (L_s_NotLost_0 P_s_UpAt w) _ (by simp only [maxLen]; omega) (nl w) (fun i hi => ?_) ?_
  · have h1 : ((i : Int) < (w.2.1.length : Int)) := by omega
    have h2 : (0 : Int) ≤ (i : Int) := by omega
    have h3 : ((i : Int) < (w.2.2.2.2.2.length : Int)) := by omega
    simp only [L_s_NotLost_0, dec_true h1, dec_true h2, dec_true h3, cond_true, bindS]
    rw [s_UpAt_eq _ _ (smW_ups h)]
    show bindO (some (upOf w i)) _ = _
    simp only [bindO, nl]
    change (bif (!decide (toldAt w i = -1)) then _ else _) = _
    by_cases ht : toldAt w i = -1
    · simp [ht]
    · by_cases hu : (upOf w i).2.1 = true
      · by_cases hd : (List.length (upOf w i).1.2.2.1 : Int) < toldAt w i
        · have hd' : (List.length (upOf w i).1.2.2.1 : Int) < rd (.int .i64) w.2.2.2.2.2 (i : Int) := hd
          simp [ht, hu, hd, hd']
        · have hd' : ¬ (List.length (upOf w i).1.2.2.1 : Int) < rd (.int .i64) w.2.2.2.2.2 (i : Int) := hd
          simp [ht, hu, hd, hd']
      · simp [ht, hu]
  · by_cases hc : w.2.1.length ≤ w.2.2.2.2.2.length
    · rw [Nat.min_eq_left hc]
      simp [L_s_NotLost_0, bindS]
    · rw [Nat.min_eq_right (by omega)]
      have h1 : ((w.2.2.2.2.2.length : Int) < (w.2.1.length : Int)) := by omega
      simp [L_s_NotLost_0, bindS, h1]
theorem i_NotLost_eq (w : TWorld) (h : Sm 1048576 kWorld w) : P_i_NotLost w = some ((List.range w.2.1.length).all (fun i => if w.2.2.2.2.2.length ≤ i then true else nl w i), ()) := by
  have hl : w.2.1.length ≤ 1048576 := (smW_cls h).1
  refine loopB (L_i_NotLost_0 P_i_UpAt w) _ (by simp only [maxLen]; omega) _ (fun i hi => ?_) (by simp [L_i_NotLost_0])
  have h1 : ((i : Int) < (w.2.1.length : Int)) := by omega
  have h2 : (0 : Int) ≤ (i : Int) := by omega
  simp only [L_i_NotLost_0, dec_true h1, dec_true h2, cond_true]
  by_cases h3 : w.2.2.2.2.2.length ≤ i
  · rw [dec_true (by omega), if_pos h3]
    rfl
  · rw [dec_false (show ¬ ((i : Int) ≥ (w.2.2.2.2.2.length : Int)) by omega), if_neg h3]
    have h4 : ((i : Int) < (w.2.2.2.2.2.length : Int)) := by omega
    simp only [dec_true h4, cond_true, cond_false]
    rw [i_UpAt_eq _ _ (smW_ups h)]
    show bindS (bif (decide (toldAt w i = -1)) then _ else _) (fun m1 => bindO (some (upOf w i)) _) = _
    simp only [bindO, nl]
    by_cases ht : toldAt w i = -1
    · simp [ht, bindS]
    · by_cases hu : (upOf w i).2.1 = true
      · by_cases hd : (List.length (upOf w i).1.2.2.1 : Int) < toldAt w i
        · have hd' : (List.length (upOf w i).1.2.2.1 : Int) < rd (.int .i64) w.2.2.2.2.2 (i : Int) := hd
          simp [ht, hu, hd, hd', bindS]
        · have hd' : ¬ (List.length (upOf w i).1.2.2.1 : Int) < rd (.int .i64) w.2.2.2.2.2 (i : Int) := hd
          simp [ht, hu, hd, hd', bindS]
      · simp [ht, hu, bindS]
theorem notLost_eq (w : TWorld) (h : Sm 1048576 kWorld w) : P_i_NotLost w = P_s_NotLost w := by
  rw [i_NotLost_eq w h, s_NotLost_eq w h]
  congr 2
  rw [Bool.eq_iff_iff]
  simp only [List.all_eq_true, List.mem_range]
  constructor
  · intro g i hi
    have := g i (by omega)
    rw [if_neg (by omega)] at this
    exact this
  · intro g i hi
    split
    · rfl
    · exact g i (by omega)
def en (w : TWorld) (i : Nat) : Bool := !decide ((rd kClient w.2.1 (i : Int)).2.2.1 = 5) || ((upOf w i).2.1 && ((upOf w i).1.2.2.2 && ((strOf (upOf w i).1.2.2.1).toList == (strOf (rd kClient w.2.1 (i : Int)).2.1).toList)))
theorem s_Ends_eq (w : TWorld) (h : Sm 1048576 kWorld w) : P_s_Ends w = some ((List.range w.2.1.length).all (en w), ()) := by
  have hl : w.2.1.length ≤ 1048576 := (smW_cls h).1
  refine loopB (L_s_Ends_0 P_s_UpAt w) _ (by simp only [maxLen]; omega) (en w) (fun i hi => ?_) (by simp [L_s_Ends_0])
  have h1 : ((i : Int) < (w.2.1.length : Int)) := by omega
  have h2 : (0 : Int) ≤ (i : Int) := by omega
  simp only [L_s_Ends_0, dec_true h1, dec_true h2, cond_true]
  rw [s_UpAt_eq _ _ (smW_ups h)]
  show bindO (some (upOf w i)) _ = _
  simp only [bindO, en]
  cases decide ((rd kClient w.2.1 (i : Int)).2.2.1 = 5) <;> cases (upOf w i).2.1 <;> cases (upOf w i).1.2.2.2 <;> cases ((strOf (upOf w i).1.2.2.1).toList == (strOf (rd kClient w.2.1 (i : Int)).2.1).toList) <;> simp
theorem i_Ends_eq (w : TWorld) (h : Sm 1048576 kWorld w) : P_i_Ends w = some ((List.range w.2.1.length).all (en w), ()) := by
  have hl : w.2.1.length ≤ 1048576 := (smW_cls h).1
  refine loopB (L_i_Ends_0 P_bytes_Equal P_i_UpAt w) _ (by simp only [maxLen]; omega) (en w) (fun i hi => ?_) (by simp [L_i_Ends_0])
  have h1 : ((i : Int) < (w.2.1.length : Int)) := by omega
  have h2 : (0 : Int) ≤ (i : Int) := by omega
  simp only [L_i_Ends_0, dec_true h1, dec_true h2, cond_true]
  rw [i_UpAt_eq _ _ (smW_ups h)]
  show bindO (some (upOf w i)) _ = _
  simp only [bindO, en, P_bytes_Equal, B_bytes_Equal]
  cases decide ((rd kClient w.2.1 (i : Int)).2.2.1 = 5) <;> cases (upOf w i).2.1 <;> cases (upOf w i).1.2.2.2 <;> cases ((strOf (upOf w i).1.2.2.1).toList == (strOf (rd kClient w.2.1 (i : Int)).2.1).toList) <;> simp
/-- The beginning of a list. -/
def beg (a b : List Int) : Bool := decide (a.length ≤ b.length) && (List.range a.length).all fun i => decide (rd (.int .u8) a (i : Int) = rd (.int .u8) b (i : Int))
theorem l19Begins_eq (a b : List Int) (h : a.length ≤ maxLen) : P_s_l19Begins a b = some (beg a b, ()) := by
  simp only [P_s_l19Begins, B_s_l19Begins, beg]
  by_cases hc : a.length ≤ b.length
  · rw [dec_false (by omega), dec_true hc]
    simp only [cond_false, Bool.true_and]
    refine loopB (L_s_l19Begins_0 a b) _ h _ (fun i hi => ?_) (by simp [L_s_l19Begins_0])
    have h1 : ((i : Int) < (a.length : Int)) := by omega
    have h2 : (0 : Int) ≤ (i : Int) := by omega
    have h3 : ((i : Int) < (b.length : Int)) := by omega
    simp only [L_s_l19Begins_0, dec_true h1, dec_true h2, dec_true h3, cond_true]
    cases decide (rd (.int .u8) a (i : Int) = rd (.int .u8) b (i : Int)) <;> simp
  · rw [dec_true (by omega), dec_false hc]
    rfl
theorem u8_inj {x y : Int} (hx : 0 ≤ x ∧ x < 256) (hy : 0 ≤ y ∧ y < 256) (h : UInt8.ofNat x.toNat = UInt8.ofNat y.toNat) : x = y := by
  have := congrArg UInt8.toNat h
  simp only [UInt8.toNat_ofNat'] at this
  omega
theorem strOf_take (a b : List Int) (ha : Byt a) (hb : Byt b) (hc : a.length ≤ b.length) : ((strOf ((b.take a.length).drop 0)).toList == (strOf a).toList) = (List.range a.length).all fun i => decide (rd (.int .u8) a (i : Int) = rd (.int .u8) b (i : Int)) := by
  unfold strOf
  rw [ByteArray.toList_eq, ByteArray.toList_eq, strOfNums_data, strOfNums_data, List.drop_zero, Bool.eq_iff_iff]
  simp only [beq_iff_eq, List.all_eq_true, List.mem_range, decide_eq_true_eq]
  constructor
  · intro e i hi
    rw [rd_int hi, rd_int (show i < b.length by omega)]
    have := congrArg (fun l => l[i]?) e
    simp only [List.getElem?_map] at this
    rw [List.getElem?_take_of_lt hi, List.getElem?_eq_getElem (show i < b.length by omega), List.getElem?_eq_getElem hi] at this
    simp only [Option.map_some, Option.some.injEq] at this
    exact (u8_inj (hb _ (List.getElem_mem _)) (ha _ (List.getElem_mem _)) this).symm
  · intro e
    have : b.take a.length = a := by
      apply List.ext_getElem
      · simp; omega
      · intro i h1 h2
        have := e i h2
        rw [rd_int h2, rd_int (show i < b.length by omega)] at this
        simp [this]
    rw [this]
theorem hasPrefix_eq (a b : List Int) (ha : Byt a) (hb : Byt b) : P_bytes_HasPrefix b a = some (beg a b, ()) := by
  simp only [P_bytes_HasPrefix, B_bytes_HasPrefix, P_bytes_Equal, B_bytes_Equal, beg, bindO]
  by_cases hc : a.length ≤ b.length
  · have g1 : (b.length : Int) ≥ (a.length : Int) := by omega
    have g2 : (0 : Int) ≤ (a.length : Int) := by omega
    have g3 : (a.length : Int) ≤ (b.length : Int) := by omega
    simp only [dec_true g1, dec_true g2, dec_true g3, dec_true hc, Int.toNat_natCast, cond_true, Bool.true_and]
    rw [strOf_take a b ha hb hc]
  · rw [dec_false (show ¬ (b.length : Int) ≥ (a.length : Int) by omega), dec_false hc]
    rfl
def BytW (w : TWorld) : Prop := (∀ u ∈ w.1.1.2.2.2, Byt u.2.2.1) ∧ ∀ c ∈ w.2.1, Byt c.2.1
theorem bytW_wf {w : TWorld} (h : Wf kWorld w) : BytW w := ⟨fun u hu => byt_wf (h.1.1.2.2.2.2 u hu).2.2.1.2, fun c hc => byt_wf (h.2.1.2 c hc).2.1.2⟩
theorem upOf_byt {w : TWorld} (h : BytW w) (i : Nat) : Byt (upOf w i).1.2.2.1 := by
  unfold upOf upAt
  split
  · rename_i hi
    rw [rd_nat (k := kUp) (xs := w.1.1.2.2.2) hi]
    exact h.1 _ (List.getElem_mem hi)
  · intro x hx; cases hx
theorem file_byt {w : TWorld} (h : BytW w) {i : Nat} (hi : i < w.2.1.length) : Byt (rd kClient w.2.1 (i : Int)).2.1 := by
  rw [rd_nat (k := kClient) (xs := w.2.1) hi]
  exact h.2 _ (List.getElem_mem hi)
def be (w : TWorld) (i : Nat) : Bool := !(upOf w i).2.1 || (beg (upOf w i).1.2.2.1 (rd kClient w.2.1 (i : Int)).2.1 && decide ((upOf w i).1.2.1 = (List.length (rd kClient w.2.1 (i : Int)).2.1 : Int)))
theorem s_Begins_eq (w : TWorld) (h : Sm 1048576 kWorld w) : P_s_Begins w = some ((List.range w.2.1.length).all (be w), ()) := by
  have hl : w.2.1.length ≤ 1048576 := (smW_cls h).1
  refine loopB (L_s_Begins_0 P_s_UpAt P_s_l19Begins w) _ (by simp only [maxLen]; omega) (be w) (fun i hi => ?_) (by simp [L_s_Begins_0])
  have h1 : ((i : Int) < (w.2.1.length : Int)) := by omega
  have h2 : (0 : Int) ≤ (i : Int) := by omega
  simp only [L_s_Begins_0, dec_true h1, dec_true h2, cond_true]
  rw [s_UpAt_eq _ _ (smW_ups h)]
  show bindO (some (upOf w i)) _ = _
  have hd : List.length (upOf w i).1.2.2.1 ≤ 1048576 := upAt_data (smW_ups h) _
  simp only [bindO, be]
  rw [l19Begins_eq _ _ (by simp only [maxLen]; omega)]
  simp only
  cases (upOf w i).2.1 <;> cases beg (upOf w i).1.2.2.1 (rd kClient w.2.1 (i : Int)).2.1 <;> cases decide ((upOf w i).1.2.1 = (List.length (rd kClient w.2.1 (i : Int)).2.1 : Int)) <;> simp
theorem i_Begins_eq (w : TWorld) (h : Sm 1048576 kWorld w) (hb : BytW w) : P_i_Begins w = some ((List.range w.2.1.length).all (be w), ()) := by
  have hl : w.2.1.length ≤ 1048576 := (smW_cls h).1
  refine loopB (L_i_Begins_0 P_bytes_HasPrefix P_i_UpAt w) _ (by simp only [maxLen]; omega) (be w) (fun i hi => ?_) (by simp [L_i_Begins_0])
  have h1 : ((i : Int) < (w.2.1.length : Int)) := by omega
  have h2 : (0 : Int) ≤ (i : Int) := by omega
  simp only [L_i_Begins_0, dec_true h1, dec_true h2, cond_true]
  rw [i_UpAt_eq _ _ (smW_ups h)]
  show bindO (some (upOf w i)) _ = _
  simp only [bindO, be]
  rw [hasPrefix_eq _ _ (upOf_byt hb i) (file_byt hb hi)]
  simp only
  cases (upOf w i).2.1 <;> cases beg (upOf w i).1.2.2.1 (rd kClient w.2.1 (i : Int)).2.1 <;> cases decide ((upOf w i).1.2.1 = (List.length (rd kClient w.2.1 (i : Int)).2.1 : Int)) <;> simp

theorem inRange_l1In : P_i_inRange = P_s_l1In := rfl
theorem strs_of {L : Int × Unit → Option ((Int × Unit) ⊕ (Unit ⊕ (Bool × Unit)))} {n : Nat} {go : Nat → Bool} (hs : ∀ i : Nat, i < n → L ((i : Int), ()) = bif go i then some (.inl (((i + 1 : Nat) : Int), ())) else some (.inr (.inr (false, ()))))
    (he : L ((n : Int), ()) = some (.inr (.inl ()))) (g : Unit → Option (Bool × Unit)) (b : Bool) (hg : g () = some (b, ())) : bindS (loopO L (0, ())) g = some (decide (firstN go 0 n = n) && b, ()) := by
  have h := loopO_first L (fun i => ((i : Int), ())) n (fun i => if i = n then .inl () else .inr (false, ())) go (fun i hi => by
    rw [hs i hi]
    cases go i with
    | true => rfl
    | false => simp only [Bool.false_eq_true, if_false, cond_false]; rw [if_neg (by omega)]) (by rw [he, if_pos rfl])
  have h' : loopO L (0, ()) = _ := h
  rw [h']
  by_cases hn : firstN go 0 n = n
  · rw [if_pos hn, dec_true hn]; simp [bindS, hg]
  · rw [if_neg hn, dec_false hn]; simp [bindS]

theorem bOr_i64 {x y : Nat} (hx : x < 9223372036854775808) (hy : y < 9223372036854775808) : bOr .i64 (x : Int) (y : Int) = ((x ||| y : Nat) : Int) := by
  have h : x ||| y < 2 ^ 63 := Nat.or_lt_two_pow (by omega) (by omega)
  unfold bOr
  rw [BitVec.toNat_or, bits_nat (by simp only [IntKind.bits]; omega), bits_nat (by simp only [IntKind.bits]; omega)]
  exact wI64 (by omega)
/-- The number that k bytes from a place on are. -/
def bigN (b : List Int) (at_ : Nat) : Nat → Nat
  | 0 => 0
  | j + 1 => (bigN b at_ j * 256) ||| (b.getD (at_ + j) 0).toNat
theorem byt_getD {b : List Int} (hb : Byt b) (i : Nat) : 0 ≤ b.getD i 0 ∧ b.getD i 0 < 256 := by
  by_cases h : i < b.length
  · simp only [List.getD, List.getElem?_eq_getElem h, Option.getD_some]
    exact hb _ (List.getElem_mem h)
  · simp only [List.getD, List.getElem?_eq_none (show b.length ≤ i by omega), Option.getD_none]
    omega
theorem bigN_lt {b : List Int} (hb : Byt b) (at_ : Nat) : ∀ j, bigN b at_ j < 2 ^ (8 * j)
  | 0 => by simp [bigN]
  | j + 1 => by
    have h1 := bigN_lt hb at_ j
    have h2 := byt_getD hb (at_ + j)
    have e : 2 ^ (8 * (j + 1)) = 2 ^ (8 * j) * 256 := by rw [show 8 * (j + 1) = 8 * j + 8 by omega, Nat.pow_add]
    refine Nat.or_lt_two_pow ?_ ?_
    · rw [e]; exact Nat.mul_lt_mul_of_pos_right h1 (by omega)
    · have : 1 ≤ 2 ^ (8 * j) := Nat.one_le_two_pow
      rw [e]; omega
theorem big_step {b : List Int} (hb : Byt b) (at_ j : Nat) (hj : j < 7) (x : Int) (hx : x = b.getD (at_ + j) 0) : bOr .i64 (IntKind.i64.wrap (((bigN b at_ j : Nat) : Int) * 256)) (IntKind.i64.wrap x) = ((bigN b at_ (j + 1) : Nat) : Int) := by
  have h1 := bigN_lt hb at_ j
  have h2 := byt_getD hb (at_ + j)
  have h3 : 2 ^ (8 * j) ≤ 2 ^ 48 := Nat.pow_le_pow_right (by omega) (by omega)
  subst hx
  rw [show ((bigN b at_ j : Nat) : Int) * 256 = ((bigN b at_ j * 256 : Nat) : Int) by omega, wI64 (by omega), show b.getD (at_ + j) 0 = (((b.getD (at_ + j) 0).toNat : Nat) : Int) by omega, wI64 (by omega), bOr_i64 (by omega) (by omega)]
  simp only [bigN, Int.toNat_natCast]
def getBig (b : List Int) (a : Int) (k : Nat) : Int × Bool × Unit := if 0 ≤ a ∧ a ≤ (b.length : Int) - k then ((bigN b a.toNat k : Int), true, ()) else (0, false, ())
theorem s_GetBig_eq (b : List Int) (hb : Byt b) (h : b.length ≤ 1048576) (a : Int) (k : Nat) (hk : 1 ≤ k ∧ k ≤ 7) : P_s_GetBig b a (k : Int) = some (getBig b a k) := by
  simp only [P_s_GetBig, B_s_GetBig, l1In_eq, bindO, getBig]
  rw [dec_true (show (1 : Int) ≤ (k : Int) ∧ (k : Int) ≤ 7 by omega), w64 (by omega) (by omega)]
  simp only [Bool.not_true, cond_false]
  by_cases h1 : a < 0
  · rw [dec_true h1, if_neg (by omega)]; rfl
  rw [dec_false h1]
  by_cases h2 : a > (b.length : Int) - k
  · rw [dec_true h2, if_neg (by omega)]; rfl
  rw [dec_false h2, if_pos (by omega)]
  simp only [cond_false, bindS]
  have key := loopO_count (L_s_GetBig_0 (k : Int) a b) (fun j => ((bigN b a.toNat j : Int), (j : Int), ())) k ((bigN b a.toNat k : Int), ()) (fun j hj => ?_) ?_
  · have e : loopO (L_s_GetBig_0 (k : Int) a b) (0, 0, ()) = _ := key
    rw [e]
  · have g1 : (j : Int) < (k : Int) := by omega
    simp only [L_s_GetBig_0, dec_true g1, cond_true]
    rw [w64 (n := a + (j : Int)) (by omega) (by omega)]
    have g2 : 0 ≤ a + (j : Int) := by omega
    have g3 : a + (j : Int) < (b.length : Int) := by omega
    rw [dec_true g2, dec_true g3]
    simp only [cond_true]
    rw [big_step hb a.toNat j (by omega) _ (by
      rw [show a + (j : Int) = ((a.toNat + j : Nat) : Int) by omega, rd_int (by omega)]
      simp [List.getD, show a.toNat + j < b.length by omega]), show (j : Int) + 1 = ((j + 1 : Nat) : Int) by omega, wI64 (by omega)]
  · simp [L_s_GetBig_0]
theorem i_GetBig_eq (b : List Int) (hb : Byt b) (h : b.length ≤ 1048576) (a : Int) (k : Nat) (hk : 1 ≤ k ∧ k ≤ 7) : P_i_GetBig b a (k : Int) = some (getBig b a k) := by
  simp only [P_i_GetBig, B_i_GetBig, inRange_eq, bindO, getBig]
  rw [dec_true (show (1 : Int) ≤ (k : Int) ∧ (k : Int) ≤ 7 by omega), w64 (n := (b.length : Int) - (k : Int)) (by omega) (by omega)]
  simp only [Bool.not_true, cond_false]
  by_cases h1 : a < 0
  · rw [dec_true h1, if_neg (by omega)]; rfl
  rw [dec_false h1]
  by_cases h2 : a > (b.length : Int) - k
  · rw [dec_true h2, if_neg (by omega)]; rfl
  rw [dec_false h2, if_pos (by omega)]
  simp only [cond_false, bindS]
  rw [w64 (n := a + (k : Int)) (by omega) (by omega), dec_true (show 0 ≤ a by omega), dec_true (show a ≤ a + (k : Int) by omega), dec_true (show a + (k : Int) ≤ (b.length : Int) by omega)]
  simp only [cond_true]
  have hlen : ((b.take (a + (k : Int)).toNat).drop a.toNat).length = k := by simp; omega
  have key := loopO_count (L_i_GetBig_0 b a (k : Int)) (fun j => ((bigN b a.toNat j : Int), (j : Int), ())) k ((bigN b a.toNat k : Int), ()) (fun j hj => ?_) ?_
  · have e : loopO (L_i_GetBig_0 b a (k : Int)) (0, 0, ()) = _ := key
    rw [e]
  · have g1 : (j : Int) < (k : Int) := by omega
    have g2 : (0 : Int) ≤ (j : Int) := by omega
    simp only [L_i_GetBig_0]
    rw [w64 (n := a + (k : Int)) (by omega) (by omega)]
    simp only [hlen, dec_true g1, dec_true g2, cond_true]
    rw [big_step hb a.toNat j (by omega) _ (by
      rw [rd_int (by rw [hlen]; exact hj)]
      simp [List.getD, show a.toNat + j < b.length by omega]), show (j : Int) + 1 = ((j + 1 : Nat) : Int) by omega, wI64 (by omega)]
  · simp only [L_i_GetBig_0]
    rw [w64 (n := a + (k : Int)) (by omega) (by omega)]
    simp [hlen]
theorem rd_byte {b : List Int} (hb : Byt b) {i : Int} (h0 : 0 ≤ i) (h1 : i < (b.length : Int)) : IntKind.i64.wrap (rd (.int .u8) b i) = rd (.int .u8) b i := by
  obtain ⟨n, rfl⟩ : ∃ n : Nat, i = (n : Int) := ⟨i.toNat, by omega⟩
  rw [rd_int (by omega)]
  have := hb b[n] (List.getElem_mem (by omega))
  exact w64 (by omega) (by omega)

theorem loopO_end {α β : Type} {f : α → Option (α ⊕ β)} {x : α} {z : β} (h : f x = some (.inr z)) : loopO f x = some z := by rw [loopO_eq, h]
theorem strOf_size (xs : List Int) : (strOf xs).size = xs.length := strOfNums_size xs
theorem app_size (a b : ByteArray) : (a ++ b).size = a.size + b.size := ByteArray.size_append
theorem markText_ok (k : Int) (h : k < 4611686018427387904) : ∃ s, P_w_markText k = some (s, ()) := by
  simp only [P_w_markText, B_w_markText]
  by_cases h0 : k ≤ 0
  · rw [dec_true h0]; exact ⟨_, rfl⟩
  rw [dec_false h0]
  obtain ⟨z, e, hz⟩ := loopO_ind L_w_markText_0 (fun l => l.1.toNat) (fun l => 0 ≤ l.1 ∧ (l.2.1.size : Int) + l.1 ≤ k) (fun z => (z.1.size : Int) ≤ k) (fun l hl => by
    obtain ⟨n, out, u⟩ := l
    simp only at hl ⊢
    simp only [L_w_markText_0]
    by_cases hp : n > 0
    · refine .inl ⟨(n.tdiv 10, strOf [IntKind.u8.wrap (IntKind.i64.wrap (48 + n.tmod 10))] ++ out, ()), ?_, ?_, ?_⟩
      · rw [dec_true hp]
        simp only [cond_true]
        rw [dec_false (by rw [strOf_size]; simp [IntKind.max, IntKind.signed, IntKind.bits]; omega)]
        simp only [cond_false]
        rw [w64 (n := n.tdiv 10) (by rw [Int.tdiv_eq_ediv_of_nonneg (by omega)]; omega) (by rw [Int.tdiv_eq_ediv_of_nonneg (by omega)]; omega)]
      · simp only
        rw [app_size, strOf_size, Int.tdiv_eq_ediv_of_nonneg (by omega)]
        simp only [List.length_singleton]
        omega
      · simp only
        rw [Int.tdiv_eq_ediv_of_nonneg (by omega)]
        omega
    · rw [dec_false hp]
      exact .inr ⟨_, rfl, by simp only; omega⟩) (k, ⟨#[]⟩, ()) (by
      constructor
      · simp only; omega
      · show ((0 : Nat) : Int) + k ≤ k
        omega)
  rw [e]
  simp only [bindO, cond_false]
  have h1 : (⟨#[109]⟩ : ByteArray).size = 1 := rfl
  rw [dec_false (by rw [h1]; simp [IntKind.max, IntKind.signed, IntKind.bits]; omega)]
  exact ⟨_, rfl⟩
noncomputable def mt (k : Int) : ByteArray := match P_w_markText k with
  | some (s, _) => s
  | none => ⟨#[]⟩
theorem markText_eq (k : Int) (h : k < 4611686018427387904) : P_w_markText k = some (mt k, ()) := by
  obtain ⟨s, hs⟩ := markText_ok k h
  unfold mt
  rw [hs]
noncomputable def markedS (m : Int) (n : Nat) : List ByteArray := (List.range n).map fun j => mt (m + (j : Nat))
theorem markStringS_eq (a : List ByteArray) (m : Int) (h0 : 0 ≤ m) (h : m + a.length < 4611686018427387904) : P_w_markStringS a m = some (m + a.length, markedS m a.length, ()) := by
  simp only [P_w_markStringS, B_w_markStringS]
  have key := loopO_count (L_w_markStringS_0 P_w_markText) (fun i => (m + (i : Int), (i : Int), markedS m i ++ a.drop i, ())) a.length (m + a.length, markedS m a.length, ()) (fun i hi => ?_) ?_
  · simpa [markedS] using key
  · have h1 : ((i : Int) < (a.length : Int)) := by omega
    have h2 : (0 : Int) ≤ (i : Int) := by omega
    have hl : (markedS m i ++ a.drop i).length = a.length := by simp [markedS]; omega
    simp only [L_w_markStringS_0, hl, dec_true h1, dec_true h2, cond_true]
    rw [markText_eq _ (by omega), w64 (by omega) (by omega), w64 (by omega) (by omega), Int.toNat_natCast]
    simp only [bindO]
    have : (markedS m i ++ a.drop i).set i (mt (m + (i : Int))) = markedS m (i + 1) ++ a.drop (i + 1) := by
      rw [List.set_append_right _ _ (by simp [markedS])]
      rw [show (markedS m i).length = i by simp [markedS], Nat.sub_self, List.drop_eq_getElem_cons hi, List.set_cons_zero]
      simp [markedS, List.range_succ]
    rw [this]
    simp only [Int.natCast_add, Int.natCast_one, Int.add_assoc]
  · simp [L_w_markStringS_0, markedS]
theorem heldStringS_eq (n : Nat) (m : Int) (h0 : 0 ≤ m) (h : m + n < 4611686018427387904) : P_w_heldStringS (markedS m n) m = some (m + n, ()) := by
  simp only [P_w_heldStringS, B_w_heldStringS]
  have hl : (markedS m n).length = n := by simp [markedS]
  have key := loopO_count (L_w_heldStringS_0 P_w_markText (markedS m n)) (fun i => (m + (i : Int), (i : Int), ())) n (m + n, ()) (fun i hi => ?_) ?_
  · simpa [markedS] using key
  · have h1 : ((i : Int) < (n : Int)) := by omega
    have h2 : (0 : Int) ≤ (i : Int) := by omega
    simp only [L_w_heldStringS_0, hl, dec_true h1, dec_true h2, cond_true]
    have hr : rd .str (markedS m n) (i : Int) = mt (m + (i : Int)) := by
      rw [rd_str (by rw [hl]; exact hi)]
      simp [markedS]
    rw [hr, markText_eq _ (by omega), w64 (by omega) (by omega), w64 (by omega) (by omega)]
    simp only [bindO, beq_self_eq_true, Bool.not_true, cond_false, Int.natCast_add, Int.natCast_one, Int.add_assoc]
  · simp [L_w_heldStringS_0, hl]

theorem bAnd_255 (x : Int) : 0 ≤ bAnd .i64 x 255 ∧ bAnd .i64 x 255 ≤ 255 := by
  unfold bAnd
  have h : (BitVec.ofInt IntKind.i64.bits x &&& BitVec.ofInt IntKind.i64.bits 255).toNat ≤ 255 := by
    rw [BitVec.toNat_and]
    have : (BitVec.ofInt IntKind.i64.bits (255 : Int)).toNat = 255 := bits_nat (w := 64) (x := 255) (by omega)
    rw [this]
    exact Nat.and_le_right
  rw [wI64 (by omega)]
  omega
theorem wrap_u8 (x : Int) : 0 ≤ IntKind.u8.wrap x ∧ IntKind.u8.wrap x < 256 := by
  simp only [IntKind.wrap, IntKind.bits, IntKind.signed]
  simp
  omega
def newDisk (n : Int) : TDisk := if 0 ≤ n ∧ n ≤ 200 then (List.replicate n.toNat ⟨#[]⟩, List.replicate n.toNat ⟨#[]⟩) else ([], [])
theorem newDisk_len (n : Int) : List.length (newDisk n).1 ≤ 200 ∧ List.length (newDisk n).2 ≤ 200 := by
  unfold newDisk
  split
  · simp; omega
  · simp
theorem s_DiskNew_eq (n : Int) : P_s_DiskNew n = some (newDisk n, ()) := by
  simp only [P_s_DiskNew, B_s_DiskNew, newDisk]
  by_cases h : 0 ≤ n ∧ n ≤ 200
  · rw [if_pos h]
    have key := loopO_count (L_s_DiskNew_0 n) (fun i => ((i : Int), List.replicate i ⟨#[]⟩, List.replicate i ⟨#[]⟩, ())) n.toNat ((List.replicate n.toNat ⟨#[]⟩, List.replicate n.toNat ⟨#[]⟩), ()) (fun i hi => ?_) ?_
    · exact key
    · have h1 : (i : Int) < n := by omega
      simp only [L_s_DiskNew_0, dec_true h1, dec_true h.2, cond_true, bindS]
      rw [dec_true (by simp; omega), dec_true (by simp; omega)]
      simp only [cond_true]
      rw [w64 (by omega) (by omega), List.replicate_succ']
      rfl
    · have h1 : ¬ ((n.toNat : Int) < n) := by omega
      simp only [L_s_DiskNew_0, dec_false h1, cond_false, bindS]
  · rw [if_neg h]
    refine loopO_end ?_
    simp only [L_s_DiskNew_0]
    by_cases h1 : (0 : Int) < n
    · rw [dec_true h1, dec_false (show ¬ n ≤ 200 by omega)]; rfl
    · rw [dec_false h1]; rfl
theorem i_DiskNew_eq (n : Int) : P_i_DiskNew n = some (newDisk n, ()) := by
  simp only [P_i_DiskNew, B_i_DiskNew, newDisk, inRange_eq, bindO]
  by_cases h : 0 ≤ n ∧ n ≤ 200
  · rw [dec_true h, if_pos h, dec_true h.1, dec_true (show n.toNat ≤ 9223372036854775807 by omega), dec_true (show 16 * n.toNat ≤ 281474976710656 by omega)]
    rfl
  · rw [dec_false h, if_neg h]; rfl
def newServer (n : Int) : TServer := ((newDisk n, 0, 0, []), [])
theorem s_ServerNew_eq (n : Int) : P_s_ServerNew n = some (newServer n, ()) := by
  simp only [P_s_ServerNew, B_s_ServerNew, P_s_StoreNew, B_s_StoreNew, s_DiskNew_eq, bindO, newServer]
theorem i_ServerNew_eq (n : Int) : P_i_ServerNew n = some (newServer n, ()) := by
  simp only [P_i_ServerNew, B_i_ServerNew, P_i_StoreNew, B_i_StoreNew, i_DiskNew_eq, bindO, newServer]
theorem markUpS_nil (m : Int) : P_w_markUpS [] m = some (m, [], ()) := loopO_end (by simp [L_w_markUpS_0])
theorem heldUpS_nil (m : Int) : P_w_heldUpS [] m = some (m, ()) := loopO_end (by simp [L_w_heldUpS_0])
theorem markHeldS_nil (m : Int) : P_w_markHeldS [] m = some (m, [], ()) := loopO_end (by simp [L_w_markHeldS_0])
theorem heldHeldS_nil (m : Int) : P_w_heldHeldS [] m = some (m, ()) := loopO_end (by simp [L_w_heldHeldS_0])
noncomputable def markedD (d : TDisk) : TDisk := (markedS 1 d.1.length, markedS (1 + (d.1.length : Int)) d.2.length)
theorem markServer_new (n : Int) : P_w_markServer (newServer n) 1 = some (1 + (List.length (newDisk n).1 : Int) + (List.length (newDisk n).2 : Int), ((markedD (newDisk n), 0, 0, []), []), ()) := by
  have hl := newDisk_len n
  simp only [P_w_markServer, B_w_markServer, P_w_markStore, B_w_markStore, P_w_markDisk, B_w_markDisk, newServer]
  rw [markStringS_eq _ _ (by omega) (by omega)]
  simp only [bindO]
  rw [markStringS_eq _ _ (by omega) (by omega)]
  simp only [markUpS_nil, markHeldS_nil]
  rfl
theorem heldServer_new (n : Int) : P_w_heldServer ((markedD (newDisk n), 0, 0, []), []) 1 = some (1 + (List.length (newDisk n).1 : Int) + (List.length (newDisk n).2 : Int), ()) := by
  have hl := newDisk_len n
  simp only [P_w_heldServer, B_w_heldServer, P_w_heldStore, B_w_heldStore, P_w_heldDisk, B_w_heldDisk, markedD]
  rw [heldStringS_eq _ _ (by omega) (by omega)]
  simp only [bindO]
  rw [dec_false (show ¬ (1 + (List.length (newDisk n).1 : Int) < 0) by omega)]
  simp only [cond_false]
  rw [heldStringS_eq _ _ (by omega) (by omega)]
  simp only
  rw [dec_false (show ¬ (1 + (List.length (newDisk n).1 : Int) + (List.length (newDisk n).2 : Int) < 0) by omega)]
  simp only [cond_false, heldUpS_nil, heldHeldS_nil]
  rw [dec_false (show ¬ (1 + (List.length (newDisk n).1 : Int) + (List.length (newDisk n).2 : Int) < 0) by omega)]
  rfl
end Go.Proofs.YtmdbndbfhgdhfaaGreat.Ev
