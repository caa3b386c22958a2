/- What the plain functions of the program and of the reference answer: laws of plain data. -/
import Derived.Test.YtpdcljonclhhpaaGreatPu
import Derived.Laws.Strings
set_option linter.unusedVariables false
set_option linter.unusedSimpArgs false
namespace Go.Proofs.YtpdcljonclhhpaaGreat.Ev

theorem w64 {n : Int} (h0 : -9223372036854775808 ≤ n) (h1 : n < 9223372036854775808) : IntKind.i64.wrap n = n := by
  simp only [IntKind.wrap, IntKind.bits, IntKind.signed, Bool.true_and]
  simp
  split <;> omega
theorem loopO_ind {α β : Type} (f : α → Option (α ⊕ β)) (μ : α → Nat) (I : α → Prop) (Q : β → Prop)
    (h : ∀ x, I x → (∃ y, f x = some (.inl y) ∧ I y ∧ μ y < μ x) ∨ ∃ z, f x = some (.inr z) ∧ Q z) : ∀ x, I x → ∃ z, loopO f x = some z ∧ Q z := by
  intro x
  generalize hn : μ x = n
  induction n using Nat.strongRecOn generalizing x with
  | ind n ih =>
    intro hx
    rw [loopO_eq]
    rcases h x hx with ⟨y, e, hy, hl⟩ | ⟨z, e, hz⟩
    · rw [e]; exact ih (μ y) (by omega) y rfl hy
    · rw [e]; exact ⟨z, rfl, hz⟩
/-- A loop that counts from 0 to n: its state at each count is known. -/
theorem loopO_count {α β : Type} (f : α → Option (α ⊕ β)) (s : Nat → α) (n : Nat) (z : β) (h : ∀ i, i < n → f (s i) = some (.inl (s (i + 1)))) (he : f (s n) = some (.inr z)) : loopO f (s 0) = some z := by
  have key : ∀ k i, i + k = n → loopO f (s i) = some z := by
    intro k
    induction k with
    | zero => intro i hi; rw [loopO_eq, show i = n by omega, he]
    | succ k ih => intro i hi; rw [loopO_eq, h i (by omega)]; exact ih (i + 1) (by omega)
  exact key n 0 (by omega)
/-- A loop that counts up and may leave at a place: what it tells is known for each. -/
theorem loopO_find {α β : Type} (f : α → Option (α ⊕ β)) (s : Nat → α) (n : Nat) (z : Nat → β) (go : Nat → Bool) (h : ∀ i, i < n → f (s i) = if go i then some (.inl (s (i + 1))) else some (.inr (z i))) (he : f (s n) = some (.inr (z n))) :
    ∃ i, i ≤ n ∧ (∀ j, j < i → go j = true) ∧ (i < n → go i = false) ∧ loopO f (s 0) = some (z i) := by
  have key : ∀ k i, i + k = n → (∀ j, j < i → go j = true) → ∃ i', i' ≤ n ∧ (∀ j, j < i' → go j = true) ∧ (i' < n → go i' = false) ∧ loopO f (s i) = some (z i') := by
    intro k
    induction k with
    | zero =>
      intro i hi hg
      obtain rfl : i = n := by omega
      exact ⟨i, Nat.le_refl _, hg, fun h => absurd h (by omega), by rw [loopO_eq, he]⟩
    | succ k ih =>
      intro i hi hg
      cases hgo : go i with
      | true =>
        obtain ⟨i', h1, h2, h3, h4⟩ := ih (i + 1) (by omega) (fun j hj => by
          by_cases h : j < i
          · exact hg j h
          · rw [show j = i by omega]; exact hgo)
        refine ⟨i', h1, h2, h3, ?_⟩
        rw [loopO_eq, h i (by omega), if_pos hgo]
        exact h4
      | false =>
        refine ⟨i, by omega, hg, fun _ => hgo, ?_⟩
        rw [loopO_eq, h i (by omega), hgo]
        rfl
  exact key n 0 (by omega) (fun j hj => by omega)
theorem bt_lo (s : ByteArray) (i : Int) : 0 ≤ bt s i := by unfold bt; omega
theorem bt_hi (s : ByteArray) (i : Int) : bt s i < 256 := by
  have := (s.data.toList.getD i.toNat 0).toNat_lt
  unfold bt; omega
theorem bt_w64 (s : ByteArray) (i : Int) : IntKind.i64.wrap (bt s i) = bt s i := w64 (by have := bt_lo s i; omega) (by have := bt_hi s i; omega)
theorem rd_nat {k : K} {xs : List k.T} {i : Nat} (h : i < xs.length) : rd k xs (i : Int) = xs[i] := by
  unfold rd
  rw [Int.toNat_natCast]
  simp [List.getD, h]
theorem rd_int {κ : IntKind} {xs : List Int} {i : Nat} (h : i < xs.length) : rd (.int κ) xs (i : Int) = xs[i] := rd_nat (k := .int κ) h
theorem rd_str {xs : List ByteArray} {i : Nat} (h : i < xs.length) : rd .str xs (i : Int) = xs[i] := rd_nat (k := .str) h
def Byt (a : List Int) : Prop := ∀ x ∈ a, 0 ≤ x ∧ x < 256
theorem pe {α β : Type} (p : α × β) : (p.1, p.2) = p := rfl
theorem dec_true {p : Prop} [Decidable p] (h : p) : decide p = true := decide_eq_true h
theorem dec_false {p : Prop} [Decidable p] (h : ¬ p) : decide p = false := decide_eq_false h

def Sm (N : Nat) : (k : K) → k.T → Prop
  | .int _, _ => True
  | .bool, _ => True
  | .fnc _, _ => True
  | .str, s => s.size ≤ N
  | .sl _ k, xs => xs.length ≤ N ∧ ∀ x ∈ xs, Sm N k x
  | .rs _ k, xs => xs.length ≤ N ∧ ∀ x ∈ xs, Sm N k x
  | .pair a b, x => Sm N a x.1 ∧ Sm N b x.2
theorem Sm.l {N : Nat} {a b : K} {x : (K.pair a b).T} (h : Sm N (.pair a b) x) : Sm N a x.1 := h.1
theorem Sm.r {N : Nat} {a b : K} {x : (K.pair a b).T} (h : Sm N (.pair a b) x) : Sm N b x.2 := h.2

theorem loopN_congr {α β : Type} {f g : α → Option (α ⊕ β)} (I : α → Prop) (h : ∀ x, I x → f x = g x) (hI : ∀ x y, I x → f x = some (.inl y) → I y) : ∀ n x, I x → loopN f n x = loopN g n x
  | 0, _, _ => rfl
  | n + 1, x, hx => by
    simp only [loopN, ← h x hx]
    cases e : f x with
    | none => rfl
    | some v =>
      cases v with
      | inl y => exact loopN_congr I h hI n y (hI x y hx e)
      | inr z => rfl
theorem loopO_congr {α β : Type} {f g : α → Option (α ⊕ β)} (I : α → Prop) (h : ∀ x, I x → f x = g x) (hI : ∀ x y, I x → f x = some (.inl y) → I y) {x : α} (hx : I x) : loopO f x = loopO g x := by
  cases e : loopO g x with
  | some z =>
    obtain ⟨n, hn⟩ := loopO_spec e
    exact loopO_of (n := n) (by rw [loopN_congr I h hI n x hx]; exact hn)
  | none =>
    cases e' : loopO f x with
    | none => rfl
    | some z =>
      obtain ⟨n, hn⟩ := loopO_spec e'
      rw [loopN_congr I h hI n x hx] at hn
      rw [loopO_of hn] at e
      cases e
def firstN (go : Nat → Bool) : Nat → Nat → Nat
  | i, 0 => i
  | i, k + 1 => if go i then firstN go (i + 1) k else i
theorem firstN_le (go : Nat → Bool) : ∀ k i, firstN go i k ≤ i + k
  | 0, i => Nat.le_refl _
  | k + 1, i => by
    simp only [firstN]
    split
    · have := firstN_le go k (i + 1); omega
    · omega
theorem firstN_fails (go : Nat → Bool) : ∀ k i, firstN go i k < i + k → go (firstN go i k) = false
  | 0, i, h => by simp [firstN] at h
  | k + 1, i, h => by
    simp only [firstN] at h ⊢
    split
    · rename_i hg
      rw [if_pos hg] at h
      exact firstN_fails go k (i + 1) (by omega)
    · rename_i hg
      simpa using hg
theorem loopO_first {α β : Type} (f : α → Option (α ⊕ β)) (s : Nat → α) (n : Nat) (z : Nat → β) (go : Nat → Bool) (h : ∀ i, i < n → f (s i) = if go i then some (.inl (s (i + 1))) else some (.inr (z i))) (he : f (s n) = some (.inr (z n))) :
    loopO f (s 0) = some (z (firstN go 0 n)) := by
  have key : ∀ k i, i + k = n → loopO f (s i) = some (z (firstN go i k)) := by
    intro k
    induction k with
    | zero =>
      intro i hi
      obtain rfl : i = n := by omega
      rw [loopO_eq, he]
      rfl
    | succ k ih =>
      intro i hi
      rw [loopO_eq, h i (by omega)]
      simp only [firstN]
      cases go i with
      | true => simp only [if_true]; exact ih (i + 1) (by omega)
      | false => rfl
  exact key n 0 (by omega)
/-- A loop that asks each place. -/
theorem loopB (L : Int × Unit → Option ((Int × Unit) ⊕ (Bool × Unit))) (n : Nat) (hn : n ≤ maxLen) (go : Nat → Bool) (hs : ∀ i : Nat, i < n → L ((i : Int), ()) = bif go i then some (.inl (IntKind.i64.wrap ((i : Int) + 1), ())) else some (.inr (false, ())))
    (he : L ((n : Int), ()) = some (.inr (true, ()))) : loopO L (0, ()) = some ((List.range n).all go, ()) := by
  have h := loopO_first L (fun i => ((i : Int), ())) n (fun i => (decide (i = n), ())) go (fun i hi => by
    rw [hs i hi, w64 (by omega) (by simp only [maxLen] at hn; omega)]
    cases go i with
    | true => rfl
    | false => simp only [Bool.false_eq_true, if_false, cond_false]; rw [dec_false (by omega)]) (by rw [he]; simp)
  have h' : loopO L (0, ()) = some (decide (firstN go 0 n = n), ()) := h
  rw [h']
  have key : ∀ k i, decide (firstN go i k = i + k) = ((List.range k).all fun j => go (i + j)) := by
    intro k
    induction k with
    | zero => intro i; simp [firstN]
    | succ k ih =>
      intro i
      have e : ((List.range (k + 1)).all fun j => go (i + j)) = (go i && (List.range k).all fun j => go (i + 1 + j)) := by
        rw [List.range_succ_eq_map, List.all_cons, List.all_map]
        simp only [Nat.add_zero]
        congr 2
        funext j
        simp only [Function.comp]
        congr 1
        omega
      rw [e, ← ih (i + 1)]
      by_cases hg : go i = true
      · have e1 : firstN go i (k + 1) = firstN go (i + 1) k := by simp only [firstN]; rw [if_pos hg]
        rw [Bool.eq_iff_iff, hg]
        simp only [decide_eq_true_eq, Bool.true_and, e1]
        omega
      · have e1 : firstN go i (k + 1) = i := by simp only [firstN]; rw [if_neg hg]
        rw [Bool.eq_iff_iff]
        simp only [decide_eq_true_eq, Bool.and_eq_true, e1]
        constructor
        · intro h; omega
        · intro h; exact absurd h.1 hg
  have k0 := key n 0
  simp only [Nat.zero_add] at k0
  rw [k0]

abbrev Client := ByteArray × List Int × Int × Int

theorem l1In_eq (a b c : Int) : P_s_l1In a b c = some (decide (b ≤ a ∧ a ≤ c), ()) := by
  simp only [P_s_l1In, B_s_l1In]
  by_cases h : b ≤ a <;> by_cases h2 : a ≤ c <;> simp [h, h2]
theorem inRange_eq (a b c : Int) : P_i_inRange a b c = some (decide (b ≤ a ∧ a ≤ c), ()) := l1In_eq a b c
def idCh (s : ByteArray) (i : Nat) : Bool := decide (97 ≤ bt s i ∧ bt s i ≤ 122) || decide (48 ≤ bt s i ∧ bt s i ≤ 57)
def idB (s : ByteArray) : Bool := (List.range s.size).all (idCh s) && decide (1 ≤ (s.size : Int) ∧ (s.size : Int) ≤ 8)
theorem l11Id_step (s : ByteArray) (h : s.size ≤ maxLen) (i : Nat) (hi : i < s.size) : L_s_l11Id_0 P_s_l1In s ((i : Int), ()) = if idCh s i then some (.inl (((i + 1 : Nat) : Int), ())) else some (.inr (.inr (false, ()))) := by
  have h1 : ((i : Int) < (s.size : Int)) := by omega
  have h2 : (0 : Int) ≤ (i : Int) := by omega
  simp only [L_s_l11Id_0, dec_true h1, dec_true h2, cond_true, bt_w64, l1In_eq, bindO]
  rw [w64 (by omega) (by simp only [maxLen] at h; omega)]
  unfold idCh
  cases decide (97 ≤ bt s i ∧ bt s i ≤ 122) <;> cases decide (48 ≤ bt s i ∧ bt s i ≤ 57) <;> simp
theorem idOk_step (s : ByteArray) (h : s.size ≤ maxLen) (i : Nat) (hi : i < s.size) : L_i_idOk_0 s ((i : Int), ()) = if idCh s i then some (.inl (((i + 1 : Nat) : Int), ())) else some (.inr (.inr (false, ()))) := by
  have h1 : ((i : Int) < (s.size : Int)) := by omega
  have h2 : (0 : Int) ≤ (i : Int) := by omega
  simp only [L_i_idOk_0, dec_true h1, dec_true h2, cond_true]
  rw [w64 (by omega) (by simp only [maxLen] at h; omega)]
  unfold idCh
  by_cases a : bt s i ≥ 97 <;> by_cases b : bt s i ≤ 122 <;> by_cases c : bt s i ≥ 48 <;> by_cases d : bt s i ≤ 57 <;> simp [a, b, c, d]
theorem id_of {s : ByteArray} {f : Int × Unit → Option ((Int × Unit) ⊕ (Unit ⊕ (Bool × Unit)))} (hs : ∀ i : Nat, i < s.size → f ((i : Int), ()) = if idCh s i then some (.inl (((i + 1 : Nat) : Int), ())) else some (.inr (.inr (false, ()))))
    (he : f ((s.size : Int), ()) = some (.inr (.inl ()))) (g : Unit → Option (Bool × Unit)) (hg : g () = some (decide (1 ≤ (s.size : Int) ∧ (s.size : Int) ≤ 8), ())) : bindS (loopO f (0, ())) g = some (idB s, ()) := by
  obtain ⟨i, h1, h2, h3, h4⟩ := loopO_find f (fun i => ((i : Int), ())) s.size (fun i => if i < s.size then .inr (false, ()) else .inl ()) (idCh s) (fun i hi => by
    simp only [if_pos hi]; exact hs i hi) (by simp only [Nat.lt_irrefl, if_false]; exact he)
  have h4' : loopO f (0, ()) = some (if i < s.size then .inr (false, ()) else .inl ()) := h4
  rw [h4']
  unfold idB
  by_cases hi : i < s.size
  · rw [if_pos hi]
    have : (List.range s.size).all (idCh s) = false := by
      rw [List.all_eq_false]
      exact ⟨i, List.mem_range.2 hi, by simp [h3 hi]⟩
    simp [bindS, this]
  · rw [if_neg hi]
    have : (List.range s.size).all (idCh s) = true := by
      rw [List.all_eq_true]
      intro j hj
      exact h2 j (by have := List.mem_range.1 hj; omega)
    simp only [bindS, this, hg, Bool.true_and]
theorem l11Id_eq (s : ByteArray) (h : s.size ≤ maxLen) : P_s_l11Id s = some (idB s, ()) := by
  simp only [P_s_l11Id, B_s_l11Id]
  exact id_of (l11Id_step s h) (by simp [L_s_l11Id_0]) _ (by simp only [l1In_eq, bindO])
theorem idOk_eq (s : ByteArray) (h : s.size ≤ maxLen) : P_i_idOk s = some (idB s, ()) := by
  simp only [P_i_idOk, B_i_idOk]
  exact id_of (idOk_step s h) (by simp [L_i_idOk_0]) _ (by simp only [inRange_eq, bindO])
def clientOkB (c : Client) : Bool := idB c.1 && decide ((c.2.1.length : Int) ≤ 400) && decide (1 ≤ c.2.2.1 ∧ c.2.2.1 ≤ 6) && decide (0 ≤ c.2.2.2 ∧ c.2.2.2 ≤ (c.2.1.length : Int))
theorem s_ClientOk_eq (c : Client) (h : c.1.size ≤ maxLen) : P_s_ClientOk c = some (clientOkB c, ()) := by
  simp only [P_s_ClientOk, B_s_ClientOk, l11Id_eq _ h, l1In_eq, bindO, clientOkB]
  cases idB c.1 <;> cases decide ((c.2.1.length : Int) ≤ 400) <;> cases decide (1 ≤ c.2.2.1 ∧ c.2.2.1 ≤ 6) <;> simp
theorem i_ClientOk_eq (c : Client) (h : c.1.size ≤ maxLen) : P_i_ClientOk c = some (clientOkB c, ()) := by
  simp only [P_i_ClientOk, B_i_ClientOk, idOk_eq _ h, inRange_eq, bindO, clientOkB]
  cases idB c.1 <;> cases decide ((c.2.1.length : Int) ≤ 400) <;> cases decide (1 ≤ c.2.2.1 ∧ c.2.2.1 ≤ 6) <;> simp

theorem eqO_self {R : Type} (a : Option R) : eqO a a = a := by
  unfold eqO
  rw [if_pos rfl]
theorem clone_byte_eq (a : List Int) (h : a.length ≤ 140737488355328) : P_slices_Clone_byte_byte a = some (a, ()) := by
  simp only [P_slices_Clone_byte_byte, B_slices_Clone_byte_byte]
  have e : (bif decide (([] : List Int).length + a.length ≤ 9223372036854775807) then bif decide ((([] : List Int).length + a.length) * 1 ≤ 140737488355328) then some (([] ++ a), ()) else none else none) = some (a, ()) := by
    rw [dec_true (by simp; omega), dec_true (by simp; omega)]
    simp
  rw [e]
  cases a with
  | nil => simp [eqO_self]
  | cons x xs => simp
def overB (c : Client) : Bool := decide (c.2.2.1 = 5) || decide (c.2.2.1 = 6)
theorem l17Over_eq (c : Client) : P_s_l17Over c = some (overB c, ()) := by
  simp only [P_s_l17Over, B_s_l17Over, overB]
  cases decide (c.2.2.1 = 5) <;> simp
theorem l17Copy_eq (c : Client) (h2 : c.2.1.length ≤ 140737488355328) : P_s_l17Copy c = some (c, ()) := by
  simp only [P_s_l17Copy, B_s_l17Copy]
  rw [dec_true (by simp; omega), dec_true (by simp; omega)]
  simp

def bigAt (n : Int) (k j : Nat) : Int := IntKind.u8.wrap (n.fdiv (2 ^ (8 * (k - 1 - j))))
def big (n : Int) (k : Nat) : List Int := (List.range k).map (bigAt n k)
theorem big_len (n : Int) (k : Nat) : (big n k).length = k := by simp [big]
theorem wu64 {n : Int} (h0 : 0 ≤ n) (h1 : n < 18446744073709551616) : IntKind.u64.wrap n = n := by
  simp only [IntKind.wrap, IntKind.bits, IntKind.signed]
  simp
  omega
theorem putLoop (v : Int) (b : List Int) (k : Nat) (hk : k ≤ 8) (hb : b.length + 8 ≤ 140737488355328) : loopO (L_s_PutBig_0 (v, ())) ((k : Int) - 1, b, ()) = some (b ++ big v k, ()) := by
  have key := loopO_count (L_s_PutBig_0 (v, ())) (fun j => ((k : Int) - 1 - (j : Int), b ++ (List.range j).map (bigAt v k), ())) k (b ++ big v k, ()) (fun j hj => ?_) ?_
  · simpa using key
  · have h1 : (k : Int) - 1 - (j : Int) ≥ 0 := by omega
    have e1 : (k : Int) - 1 - (j : Int) = ((k - 1 - j : Nat) : Int) := by omega
    have hs : IntKind.u64.wrap (IntKind.i64.wrap (8 * ((k : Int) - 1 - (j : Int)))) = ((8 * (k - 1 - j) : Nat) : Int) := by
      rw [w64 (by omega) (by omega), wu64 (by omega) (by omega)]
      omega
    have hm : min (8 * (k - 1 - j)) IntKind.i64.bits = 8 * (k - 1 - j) := Nat.min_eq_left (by simp only [IntKind.bits]; omega)
    simp only [L_s_PutBig_0, dec_true h1, cond_true, hs, Int.toNat_natCast, hm]
    rw [dec_false (by omega)]
    simp only [cond_false]
    have hl : (b ++ (List.range j).map (bigAt v k)).length = b.length + j := by simp
    rw [dec_true (by rw [hl]; simp; omega), dec_true (by rw [hl]; simp; omega)]
    simp only [cond_true]
    rw [w64 (by omega) (by omega), List.range_succ, List.map_append, List.append_assoc]
    have e2 : (k : Int) - 1 - (j : Int) - 1 = (k : Int) - 1 - ((j + 1 : Nat) : Int) := by omega
    rw [e2]
    rfl
  · have h1 : ¬ ((k : Int) - 1 - (k : Int) ≥ 0) := by omega
    simp only [L_s_PutBig_0, dec_false h1, cond_false]
    rfl
def clamp (n : Int) : Int := if n < 0 then 0 else n
theorem s_PutBig_eq (b : List Int) (n : Int) (k : Nat) (h1 : 1 ≤ k) (hk : k ≤ 8) (hb : b.length + 8 ≤ 140737488355328) : P_s_PutBig b n (k : Int) = some (b ++ big (clamp n) k, ()) := by
  simp only [P_s_PutBig, B_s_PutBig]
  rw [dec_true (by simp; omega), dec_true (by simp; omega)]
  have e : (bif decide (n < 0) then some ((0 : Int), ()) else some (n, ())) = some (clamp n, ()) := by
    unfold clamp
    by_cases h : n < 0 <;> simp [h]
  simp only [cond_true, e, bindO, l1In_eq]
  rw [dec_true (by omega)]
  simp only [Bool.not_true, cond_false, List.nil_append]
  rw [w64 (by omega) (by omega)]
  exact putLoop _ b k hk hb
theorem i_putBig_eq (b : List Int) (n : Int) (k : Nat) (hk : k ≤ 8) (hb : b.length + 8 ≤ 140737488355328) : P_i_putBig b n (k : Int) = some (b ++ big (clamp n) k, ()) := by
  simp only [P_i_putBig, B_i_putBig]
  have e : L_i_putBig_0 n = L_s_PutBig_0 (clamp n, ()) := by
    funext l
    have : (bif decide (0 > n) then (0 : Int) else n) = clamp n := by
      unfold clamp
      by_cases h : n < 0 <;> simp [h]
    simp only [L_i_putBig_0, L_s_PutBig_0, this]
  rw [e, w64 (by omega) (by omega)]
  exact putLoop _ b k hk hb

theorem wI64 {n : Nat} (h : n < 9223372036854775808) : IntKind.i64.wrap (n : Int) = (n : Int) := w64 (by omega) (by omega)
theorem wU32 {n : Nat} (h : n < 4294967296) : IntKind.u32.wrap (n : Int) = (n : Int) := by
  simp only [IntKind.wrap, IntKind.bits, IntKind.signed]
  simp
  omega
theorem bits_nat {w x : Nat} (h : x < 2 ^ w) : (BitVec.ofInt w (x : Int)).toNat = x := by
  rw [BitVec.ofInt_natCast, BitVec.toNat_ofNat]
  exact Nat.mod_eq_of_lt h
theorem bXor_i64 {x y : Nat} (hx : x < 4294967296) (hy : y < 4294967296) : bXor .i64 (x : Int) (y : Int) = ((x ^^^ y : Nat) : Int) := by
  have h : x ^^^ y < 2 ^ 32 := Nat.xor_lt_two_pow (by omega) (by omega)
  unfold bXor
  rw [BitVec.toNat_xor, bits_nat (by simp only [IntKind.bits]; omega), bits_nat (by simp only [IntKind.bits]; omega)]
  exact wI64 (by omega)
theorem bXor_u32 {x y : Nat} (hx : x < 4294967296) (hy : y < 4294967296) : bXor .u32 (x : Int) (y : Int) = ((x ^^^ y : Nat) : Int) := by
  have h : x ^^^ y < 2 ^ 32 := Nat.xor_lt_two_pow (by omega) (by omega)
  unfold bXor
  rw [BitVec.toNat_xor, bits_nat (by simp only [IntKind.bits]; omega), bits_nat (by simp only [IntKind.bits]; omega)]
  exact wU32 (by omega)
theorem bAnd_i64 {x y : Nat} (hx : x < 4294967296) (hy : y < 4294967296) : bAnd .i64 (x : Int) (y : Int) = ((x &&& y : Nat) : Int) := by
  have h : x &&& y < 2 ^ 32 := Nat.and_lt_two_pow _ (by omega)
  unfold bAnd
  rw [BitVec.toNat_and, bits_nat (by simp only [IntKind.bits]; omega), bits_nat (by simp only [IntKind.bits]; omega)]
  exact wI64 (by omega)
theorem bAnd_u32 {x y : Nat} (hx : x < 4294967296) (hy : y < 4294967296) : bAnd .u32 (x : Int) (y : Int) = ((x &&& y : Nat) : Int) := by
  have h : x &&& y < 2 ^ 32 := Nat.and_lt_two_pow _ (by omega)
  unfold bAnd
  rw [BitVec.toNat_and, bits_nat (by simp only [IntKind.bits]; omega), bits_nat (by simp only [IntKind.bits]; omega)]
  exact wU32 (by omega)
def crcStep (c : Nat) : Nat := if c &&& 1 = 1 then (c / 2) ^^^ 2197175160 else c / 2
def crcN (c : Nat) : Nat → Nat
  | 0 => c
  | i + 1 => crcStep (crcN c i)
theorem crcStep_lt {c : Nat} (h : c < 4294967296) : crcStep c < 4294967296 := by
  unfold crcStep
  split
  · have : (c / 2) ^^^ 2197175160 < 2 ^ 32 := Nat.xor_lt_two_pow (by omega) (by omega)
    omega
  · omega
theorem crcN_lt {c : Nat} (h : c < 4294967296) : ∀ i, crcN c i < 4294967296
  | 0 => h
  | i + 1 => crcStep_lt (crcN_lt h i)
theorem half (c : Nat) : ((c : Int)).fdiv 2 = ((c / 2 : Nat) : Int) := by
  rw [Int.fdiv_eq_ediv_of_nonneg _ (by omega)]
  omega
def crcL (a : List Int) : Nat := a.foldl (fun c x => crcN (c ^^^ x.toNat) 8) 4294967295
theorem crcF_lt (a : List Int) (ha : Byt a) : ∀ c, c < 4294967296 → a.foldl (fun c x => crcN (c ^^^ x.toNat) 8) c < 4294967296 := by
  induction a with
  | nil => intro c h; exact h
  | cons x a ih =>
    intro c h
    have hx := ha x (by simp)
    refine ih (fun y hy => ha y (by simp [hy])) _ (crcN_lt ?_ 8)
    have : c ^^^ x.toNat < 2 ^ 32 := Nat.xor_lt_two_pow (by omega) (by omega)
    omega
theorem byt_take {a : List Int} (h : Byt a) (i : Nat) : Byt (a.take i) := fun x hx => h x (List.mem_of_mem_take hx)
theorem crcL_lt {a : List Int} (h : Byt a) : crcL a < 4294967296 := crcF_lt a h _ (by omega)
theorem crcL_take {a : List Int} {i : Nat} (hi : i < a.length) : crcL (a.take (i + 1)) = crcN (crcL (a.take i) ^^^ a[i].toNat) 8 := by
  unfold crcL
  rw [List.take_succ_eq_append_getElem hi, List.foldl_append]
  rfl
theorem s_inner (l0 : Int × Int × Unit) (c : Nat) (h : c < 4294967296) : loopO (L_s_Crc_0 l0) ((c : Int), 0, ()) = some (.inl ((crcN c 8 : Int), IntKind.i64.wrap (l0.2.1 + 1), ())) := by
  refine loopO_count (L_s_Crc_0 l0) (fun i => ((crcN c i : Int), (i : Int), ())) 8 _ (fun i hi => ?_) ?_
  · have hl := crcN_lt h i
    have h1 : (i : Int) < 8 := by omega
    simp only [L_s_Crc_0, dec_true h1, cond_true, half]
    rw [show (1 : Int) = ((1 : Nat) : Int) from rfl, bAnd_i64 hl (by omega), show (2197175160 : Int) = ((2197175160 : Nat) : Int) from rfl, bXor_i64 (by omega) (by omega)]
    rw [show ((i : Int) + ((1 : Nat) : Int)) = ((i + 1 : Nat) : Int) by omega, wI64 (by omega)]
    simp only [crcN, crcStep]
    by_cases hb : crcN c i &&& 1 = 1
    · rw [dec_true (by rw [hb]), if_pos hb]; rfl
    · rw [dec_false (by omega), if_neg hb]; rfl
  · rfl
theorem s_Crc_eq (a : List Int) (ha : Byt a) (h : a.length ≤ maxLen) : P_s_Crc a = some (((crcL a ^^^ 4294967295 : Nat) : Int), ()) := by
  simp only [P_s_Crc, B_s_Crc]
  have key := loopO_count (L_s_Crc_1 a) (fun i => ((crcL (a.take i) : Int), (i : Int), ())) a.length ((crcL a : Int), ()) (fun i hi => ?_) ?_
  · have e : loopO (L_s_Crc_1 a) (4294967295, 0, ()) = some ((crcL a : Int), ()) := key
    rw [e]
    simp only [bindO]
    rw [show (4294967295 : Int) = ((4294967295 : Nat) : Int) from rfl, bXor_i64 (crcL_lt ha) (by omega)]
  · have h1 : ((i : Int) < (a.length : Int)) := by omega
    have h2 : (0 : Int) ≤ (i : Int) := by omega
    have hx := ha a[i] (List.getElem_mem hi)
    have hc := crcL_lt (byt_take ha i)
    simp only [L_s_Crc_1, dec_true h1, dec_true h2, cond_true, rd_int hi]
    have hxor : crcL (a.take i) ^^^ a[i].toNat < 2 ^ 32 := Nat.xor_lt_two_pow (by omega) (by omega)
    rw [w64 (by omega) (by omega), show a[i] = ((a[i].toNat : Nat) : Int) by omega, bXor_i64 hc (by omega)]
    rw [s_inner _ _ (by omega)]
    simp only
    rw [show ((i : Int) + 1) = ((i + 1 : Nat) : Int) by omega, wI64 (by simp only [maxLen] at h; omega), crcL_take hi]
  · simp [L_s_Crc_1]
theorem i_inner (l0 : Int × Int × Unit) (c : Nat) (h : c < 4294967296) : loopO (L_i_Crc_0 l0) ((c : Int), 0, ()) = some (.inl ((crcN c 8 : Int), IntKind.i64.wrap (l0.2.1 + 1), ())) := by
  refine loopO_count (L_i_Crc_0 l0) (fun i => ((crcN c i : Int), (i : Int), ())) 8 _ (fun i hi => ?_) ?_
  · have hl := crcN_lt h i
    have h1 : (i : Int) < 8 := by omega
    simp only [L_i_Crc_0, dec_true h1, cond_true, half]
    rw [show (1 : Int) = ((1 : Nat) : Int) from rfl, bAnd_u32 hl (by omega), show (2197175160 : Int) = ((2197175160 : Nat) : Int) from rfl, bXor_u32 (by omega) (by omega)]
    rw [show ((i : Int) + ((1 : Nat) : Int)) = ((i + 1 : Nat) : Int) by omega, wI64 (by omega)]
    simp only [crcN, crcStep]
    by_cases hb : crcN c i &&& 1 = 1
    · rw [dec_true (by rw [hb]), if_pos hb]; rfl
    · rw [dec_false (by omega), if_neg hb]; rfl
  · rfl
theorem i_Crc_eq (a : List Int) (ha : Byt a) (h : a.length ≤ maxLen) : P_i_Crc a = some (((crcL a ^^^ 4294967295 : Nat) : Int), ()) := by
  simp only [P_i_Crc, B_i_Crc]
  have key := loopO_count (L_i_Crc_1 a) (fun i => ((crcL (a.take i) : Int), (i : Int), ())) a.length ((crcL a : Int), ()) (fun i hi => ?_) ?_
  · have e : loopO (L_i_Crc_1 a) (4294967295, 0, ()) = some ((crcL a : Int), ()) := key
    rw [e]
    simp only [bindO]
    have hm : IntKind.u32.max = ((4294967295 : Nat) : Int) := rfl
    have hxor : crcL a ^^^ 4294967295 < 2 ^ 32 := Nat.xor_lt_two_pow (by have := crcL_lt ha; omega) (by omega)
    rw [hm, bXor_u32 (by omega) (crcL_lt ha), Nat.xor_comm, wI64 (by omega)]
  · have h1 : ((i : Int) < (a.length : Int)) := by omega
    have h2 : (0 : Int) ≤ (i : Int) := by omega
    have hx := ha a[i] (List.getElem_mem hi)
    have hc := crcL_lt (byt_take ha i)
    simp only [L_i_Crc_1, dec_true h1, dec_true h2, cond_true, rd_int hi]
    have hxor : crcL (a.take i) ^^^ a[i].toNat < 2 ^ 32 := Nat.xor_lt_two_pow (by omega) (by omega)
    rw [show a[i] = ((a[i].toNat : Nat) : Int) by omega, wU32 (by omega), bXor_u32 hc (by omega)]
    rw [i_inner _ _ (by omega)]
    simp only
    rw [show ((i : Int) + 1) = ((i + 1 : Nat) : Int) by omega, wI64 (by simp only [maxLen] at h; omega), crcL_take hi]
  · simp [L_i_Crc_1]

abbrev Req := Int × ByteArray × Int
def noReq : Req × List Int × Bool × Unit := ((0, ⟨#[]⟩, 0), [], false, ())
def nextReq (c : Client) : Req × List Int × Bool × Unit :=
  if clientOkB c = false then noReq
  else if c.2.2.1 = 1 then ((1, c.1, (c.2.1.length : Int)), [], true, ())
  else if c.2.2.1 = 2 then ((2, c.1, 0), [], true, ())
  else if c.2.2.1 = 3 then ((3, c.1, c.2.2.2), (c.2.1.take (min (c.2.2.2.toNat + 24) c.2.1.length)).drop c.2.2.2.toNat, true, ())
  else if c.2.2.1 = 4 then ((4, c.1, ((crcL c.2.1 ^^^ 4294967295 : Nat) : Int)), [], true, ())
  else noReq
theorem ok_off {c : Client} (h : clientOkB c = true) : c.2.1.length ≤ 400 ∧ 1 ≤ c.2.2.1 ∧ c.2.2.1 ≤ 6 ∧ 0 ≤ c.2.2.2 ∧ c.2.2.2 ≤ (c.2.1.length : Int) := by
  simp only [clientOkB, Bool.and_eq_true, decide_eq_true_eq] at h
  omega
theorem nextReq_len (c : Client) : (nextReq c).2.1.length ≤ c.2.1.length := by
  unfold nextReq noReq
  repeat' split
  all_goals simp
  omega
theorem s_NextReq_eq (c : Client) (h : c.1.size ≤ maxLen) (hb : Byt c.2.1) : P_s_NextReq c = some (nextReq c) := by
  simp only [P_s_NextReq, B_s_NextReq, s_ClientOk_eq c h, bindO, nextReq]
  cases hk : clientOkB c with
  | false => rfl
  | true =>
    obtain ⟨h1, h2, h3, h4, h5⟩ := ok_off hk
    simp only [Bool.not_true, cond_false, Bool.true_eq_false, if_false]
    by_cases e1 : c.2.2.1 = 1
    · rw [dec_true e1, if_pos e1]; rfl
    rw [dec_false e1, if_neg e1]
    by_cases e2 : c.2.2.1 = 2
    · rw [dec_true e2, if_pos e2]; rfl
    rw [dec_false e2, if_neg e2]
    by_cases e3 : c.2.2.1 = 3
    · rw [dec_true e3, if_pos e3, w64 (by omega) (by omega)]
      simp only [cond_true, cond_false]
      have hm : (bif decide (c.2.2.2 + 24 > (c.2.1.length : Int)) then some ((c.2.1.length : Int), ()) else some (c.2.2.2 + 24, ())) = some (((min (c.2.2.2.toNat + 24) c.2.1.length : Nat) : Int), ()) := by
        by_cases hc : c.2.2.2 + 24 > (c.2.1.length : Int)
        · rw [dec_true hc]; simp only [cond_true]; congr 2; omega
        · rw [dec_false hc]; simp only [cond_false]; congr 2; omega
      rw [hm]
      simp only
      rw [dec_true h4, dec_true (by omega), dec_true (by omega), Int.toNat_natCast]
      simp only [cond_true]
      rw [dec_true (by simp; omega), dec_true (by simp; omega)]
      simp
    rw [dec_false e3, if_neg e3]
    by_cases e4 : c.2.2.1 = 4
    · rw [dec_true e4, if_pos e4]
      simp only [cond_true, cond_false]
      rw [s_Crc_eq _ hb (by simp only [maxLen]; omega)]
    · rw [dec_false e4, if_neg e4]; rfl

abbrev Resp := Int × Int
def respOkB (r : Resp) : Bool := decide (100 ≤ r.1 ∧ r.1 ≤ 599) && decide (-1 ≤ r.2 ∧ r.2 ≤ 1000000000)
theorem s_RespOk_eq (r : Resp) : P_s_RespOk r = some (respOkB r, ()) := by
  simp only [P_s_RespOk, B_s_RespOk, l1In_eq, bindO, respOkB]
  cases decide (100 ≤ r.1 ∧ r.1 ≤ 599) <;> simp
theorem i_RespOk_eq (r : Resp) : P_i_RespOk r = some (respOkB r, ()) := by
  simp only [P_i_RespOk, B_i_RespOk, inRange_eq, bindO, respOkB]
  cases decide (100 ≤ r.1 ∧ r.1 ≤ 599) <;> simp
def far (c : Client) (off : Int) : Client := if 0 ≤ off ∧ off ≤ (c.2.1.length : Int) then (if off = (c.2.1.length : Int) then (c.1, c.2.1, 4, off) else (c.1, c.2.1, 3, off)) else (c.1, c.2.1, 6, c.2.2.2)
theorem l17Far_eq (c : Client) (off : Int) : P_s_l17Far c off = some (far c off, ()) := by
  simp only [P_s_l17Far, B_s_l17Far, l1In_eq, bindO, far]
  by_cases h : 0 ≤ off ∧ off ≤ (c.2.1.length : Int)
  · rw [dec_true h, if_pos h]
    by_cases h2 : off = (c.2.1.length : Int) <;> simp [h2]
  · rw [dec_false h, if_neg h]; rfl
def nextStep (step status : Int) : Int :=
  if status = 507 then (if step = 2 then 6 else step)
  else if status = 404 then (if step = 1 then 6 else 1)
  else if status = 409 then (if step = 3 then 0 else if step = 2 then 6 else 2)
  else if status = 201 then (if step = 1 then 0 else 6)
  else if status = 204 then (if step = 3 then 0 else 6)
  else if status = 200 then (if step = 2 then 0 else if step = 4 then 5 else 6)
  else 6
theorem l17Next_eq (a b : Int) : P_s_l17Next a b = some (nextStep a b, ()) := by
  simp only [P_s_l17Next, B_s_l17Next, nextStep]
  by_cases h1 : b = 507
  · by_cases h : a = 2 <;> simp [h1, h]
  by_cases h2 : b = 404
  · by_cases h : a = 1 <;> simp [h2, h]
  by_cases h3 : b = 409
  · by_cases h : a = 3
    · simp [h3, h]
    · by_cases h' : a = 2 <;> simp [h3, h, h']
  by_cases h4 : b = 201
  · by_cases h : a = 1 <;> simp [h4, h]
  by_cases h5 : b = 204
  · by_cases h : a = 3 <;> simp [h5, h]
  by_cases h6 : b = 200
  · by_cases h : a = 2
    · simp [h6, h]
    · by_cases h' : a = 4 <;> simp [h6, h, h']
  simp [h1, h2, h3, h4, h5, h6]
def hear (c : Client) (r : Resp) : Client := if nextStep c.2.2.1 r.1 = 0 then far c r.2 else (c.1, c.2.1, nextStep c.2.2.1 r.1, c.2.2.2)
theorem l17Hear_eq (c : Client) (r : Resp) : P_s_l17Hear c r = some (hear c r, ()) := by
  simp only [P_s_l17Hear, B_s_l17Hear, l17Next_eq, l17Far_eq, bindO, hear]
  by_cases h : nextStep c.2.2.1 r.1 = 0 <;> simp [h]

theorem smW_cls {N : Nat} {w : TWorld} (h : Sm N kWorld w) : Sm N (.sl 0 kClient) w.2.1 := Sm.l (Sm.r h)
theorem smW_ups {N : Nat} {w : TWorld} (h : Sm N kWorld w) : Sm N (.sl 0 kUp) w.1.1.2.2.2 := Sm.r (Sm.r (Sm.r (Sm.l (Sm.l h))))
theorem i_NoneFails_eq (w : TWorld) : P_i_NoneFails w = P_s_NoneFails w := rfl
/-- Where an upload of a name is. -/
def upIx (us : List TUp) (id : ByteArray) : Nat := firstN (fun i => !((rd kUp us (i : Int)).1.toList == id.toList)) 0 us.length
def noUp : TUp × Bool × Unit := ((⟨#[]⟩, 0, [], false), false, ())
def upAt (st : TStore) (id : ByteArray) : TUp × Bool × Unit := if upIx st.2.2.2 id < st.2.2.2.length then (rd kUp st.2.2.2 (upIx st.2.2.2 id : Int), true, ()) else noUp
theorem l14At_eq (us : List TUp) (id : ByteArray) (h : us.length ≤ maxLen) : P_s_l14At us id = some (if upIx us id < us.length then (upIx us id : Int) else -1, ()) := by
  simp only [P_s_l14At, B_s_l14At]
  refine loopO_first (L_s_l14At_0 us id) (fun i => ((i : Int), ())) us.length (fun i => (if i < us.length then (i : Int) else -1, ())) (fun i => !((rd kUp us (i : Int)).1.toList == id.toList)) (fun i hi => ?_) ?_
  · have h1 : ((i : Int) < (us.length : Int)) := by omega
    have h2 : (0 : Int) ≤ (i : Int) := by omega
    simp only [L_s_l14At_0, dec_true h1, dec_true h2, cond_true, if_pos hi]
    rw [w64 (by omega) (by simp only [maxLen] at h; omega)]
    cases ((rd kUp us (i : Int)).1.toList == id.toList) <;> simp
  · simp [L_s_l14At_0]
theorem rdUp_sm {us : List TUp} {N : Nat} (h : Sm N (.sl 0 kUp) us) {i : Nat} (hi : i < us.length) : Sm N kUp (rd kUp us (i : Int)) := by
  rw [rd_nat (k := kUp) (xs := us) hi]
  exact h.2 _ (List.getElem_mem hi)
theorem s_UpAt_eq (st : TStore) (id : ByteArray) (h : Sm 1048576 (.sl 0 kUp) st.2.2.2) : P_s_UpAt st id = some (upAt st id) := by
  have hl : st.2.2.2.length ≤ 1048576 := h.1
  simp only [P_s_UpAt, B_s_UpAt]
  rw [l14At_eq _ _ (by simp only [maxLen]; omega)]
  simp only [bindO, upAt]
  by_cases hi : upIx st.2.2.2 id < st.2.2.2.length
  · have hd : List.length (rd kUp st.2.2.2 (upIx st.2.2.2 id : Int)).2.2.1 ≤ 1048576 := (Sm.l (Sm.r (Sm.r (rdUp_sm h hi)))).1
    rw [if_pos hi, if_pos hi, dec_false (by omega), dec_true (show (0 : Int) ≤ (upIx st.2.2.2 id : Int) by omega), dec_true (by omega), dec_true (by simp; omega), dec_true (by simp; omega)]
    simp
  · rw [if_neg hi, if_neg hi]
    rfl
theorem copyUp_eq (u : TUp) (h : Sm 1048576 kUp u) : P_i_copyUp u = some (u, ()) := by
  have hd : List.length u.2.2.1 ≤ 1048576 := (Sm.l (Sm.r (Sm.r h))).1
  simp only [P_i_copyUp, B_i_copyUp, clone_byte_eq _ (show List.length u.2.2.1 ≤ 140737488355328 by omega), bindO]
theorem i_UpAt_eq (st : TStore) (id : ByteArray) (h : Sm 1048576 (.sl 0 kUp) st.2.2.2) : P_i_UpAt st id = some (upAt st id) := by
  have hl : st.2.2.2.length ≤ 1048576 := h.1
  simp only [P_i_UpAt, B_i_UpAt]
  have e := loopO_first (L_i_UpAt_0 P_i_copyUp st id) (fun i => ((i : Int), ())) st.2.2.2.length (fun i => if i < st.2.2.2.length then .inr (rd kUp st.2.2.2 (i : Int), true, ()) else .inl ()) (fun i => !((rd kUp st.2.2.2 (i : Int)).1.toList == id.toList)) (fun i hi => ?_) ?_
  · have e' : loopO (L_i_UpAt_0 P_i_copyUp st id) (0, ()) = _ := e
    rw [e']
    simp only [upAt]
    by_cases hi : upIx st.2.2.2 id < st.2.2.2.length
    · rw [if_pos hi]
      have hi' : firstN (fun i => !((rd kUp st.2.2.2 (i : Int)).1.toList == id.toList)) 0 st.2.2.2.length < st.2.2.2.length := hi
      rw [if_pos hi']
      rfl
    · rw [if_neg hi]
      have hi' : ¬ firstN (fun i => !((rd kUp st.2.2.2 (i : Int)).1.toList == id.toList)) 0 st.2.2.2.length < st.2.2.2.length := hi
      rw [if_neg hi']
      rfl
  · have h1 : ((i : Int) < (st.2.2.2.length : Int)) := by omega
    have h2 : (0 : Int) ≤ (i : Int) := by omega
    simp only [L_i_UpAt_0, dec_true h1, dec_true h2, cond_true, if_pos hi]
    rw [w64 (by omega) (by omega), copyUp_eq _ (rdUp_sm h hi)]
    cases ((rd kUp st.2.2.2 (i : Int)).1.toList == id.toList) <;> simp [bindO]
  · simp [L_i_UpAt_0]
theorem upAt_sm {st : TStore} (h : Sm 1048576 (.sl 0 kUp) st.2.2.2) (id : ByteArray) : Sm 1048576 kUp (upAt st id).1 := by
  unfold upAt
  split
  · rename_i hi
    exact rdUp_sm h hi
  · simp [noUp, Sm]
    exact Nat.zero_le _
theorem upAt_data {st : TStore} (h : Sm 1048576 (.sl 0 kUp) st.2.2.2) (id : ByteArray) : List.length (upAt st id).1.2.2.1 ≤ 1048576 := (Sm.l (Sm.r (Sm.r (upAt_sm h id)))).1

def upOf (w : TWorld) (i : Nat) : TUp × Bool × Unit := upAt w.1.1 (rd kClient w.2.1 (i : Int)).1
def toldAt (w : TWorld) (i : Nat) : Int := rd (.int .i64) w.2.2.2.2.2 (i : Int)
def nl (w : TWorld) (i : Nat) : Bool := decide (toldAt w i = -1) || ((upOf w i).2.1 && !decide ((List.length (upOf w i).1.2.2.1 : Int) < toldAt w i))
theorem s_NotLost_eq (w : TWorld) (h : Sm 1048576 kWorld w) : P_s_NotLost w = some ((List.range (min w.2.1.length w.2.2.2.2.2.length)).all (nl w), ()) := by
  have hl : w.2.1.length ≤ 1048576 := (smW_cls h).1
  refine loopB (L_s_NotLost_0 P_s_UpAt w) _ (by simp only [maxLen]; omega) (nl w) (fun i hi => ?_) ?_
  · have h1 : ((i : Int) < (w.2.1.length : Int)) := by omega
    have h2 : (0 : Int) ≤ (i : Int) := by omega
    have h3 : ((i : Int) < (w.2.2.2.2.2.length : Int)) := by omega
    simp only [L_s_NotLost_0, dec_true h1, dec_true h2, dec_true h3, cond_true, bindS]
    rw [s_UpAt_eq _ _ (smW_ups h)]
    show bindO (some (upOf w i)) _ = _
    simp only [bindO, nl]
    change (bif (!decide (toldAt w i = -1)) then _ else _) = _
    by_cases ht : toldAt w i = -1
    · simp [ht]
    · by_cases hu : (upOf w i).2.1 = true
      · by_cases hd : (List.length (upOf w i).1.2.2.1 : Int) < toldAt w i
        · have hd' : (List.length (upOf w i).1.2.2.1 : Int) < rd (.int .i64) w.2.2.2.2.2 (i : Int) := hd
          simp [ht, hu, hd, hd']
        · have hd' : ¬ (List.length (upOf w i).1.2.2.1 : Int) < rd (.int .i64) w.2.2.2.2.2 (i : Int) := hd
          simp [ht, hu, hd, hd']
      · simp [ht, hu]
  · by_cases hc : w.2.1.length ≤ w.2.2.2.2.2.length
    · rw [Nat.min_eq_left hc]
      simp [L_s_NotLost_0, bindS]
    · rw [Nat.min_eq_right (by omega)]
      have h1 : ((w.2.2.2.2.2.length : Int) < (w.2.1.length : Int)) := by omega
      simp [L_s_NotLost_0, bindS, h1]
theorem i_NotLost_eq (w : TWorld) (h : Sm 1048576 kWorld w) : P_i_NotLost w = some ((List.range w.2.1.length).all (fun i => if w.2.2.2.2.2.length ≤ i then true else nl w i), ()) := by
  have hl : w.2.1.length ≤ 1048576 := (smW_cls h).1
  refine loopB (L_i_NotLost_0 P_i_UpAt w) _ (by simp only [maxLen]; omega) _ (fun i hi => ?_) (by simp [L_i_NotLost_0])
  have h1 : ((i : Int) < (w.2.1.length : Int)) := by omega
  have h2 : (0 : Int) ≤ (i : Int) := by omega
  simp only [L_i_NotLost_0, dec_true h1, dec_true h2, cond_true]
  by_cases h3 : w.2.2.2.2.2.length ≤ i
  · rw [dec_true (by omega), if_pos h3]
    rfl
  · rw [dec_false (show ¬ ((i : Int) ≥ (w.2.2.2.2.2.length : Int)) by omega), if_neg h3]
    have h4 : ((i : Int) < (w.2.2.2.2.2.length : Int)) := by omega
    simp only [dec_true h4, cond_true, cond_false]
    rw [i_UpAt_eq _ _ (smW_ups h)]
    show bindS (bif (decide (toldAt w i = -1)) then _ else _) (fun m1 => bindO (some (upOf w i)) _) = _
    simp only [bindO, nl]
    by_cases ht : toldAt w i = -1
    · simp [ht, bindS]
    · by_cases hu : (upOf w i).2.1 = true
      · by_cases hd : (List.length (upOf w i).1.2.2.1 : Int) < toldAt w i
        · have hd' : (List.length (upOf w i).1.2.2.1 : Int) < rd (.int .i64) w.2.2.2.2.2 (i : Int) := hd
          simp [ht, hu, hd, hd', bindS]
        · have hd' : ¬ (List.length (upOf w i).1.2.2.1 : Int) < rd (.int .i64) w.2.2.2.2.2 (i : Int) := hd
          simp [ht, hu, hd, hd', bindS]
      · simp [ht, hu, bindS]
theorem notLost_eq (w : TWorld) (h : Sm 1048576 kWorld w) : P_i_NotLost w = P_s_NotLost w := by
  rw [i_NotLost_eq w h, s_NotLost_eq w h]
  congr 2
  rw [Bool.eq_iff_iff]
  simp only [List.all_eq_true, List.mem_range]
  constructor
  · intro g i hi
    have := g i (by omega)
    rw [if_neg (by omega)] at this
    exact this
  · intro g i hi
    split
    · rfl
    · exact g i (by omega)
def en (w : TWorld) (i : Nat) : Bool := !decide ((rd kClient w.2.1 (i : Int)).2.2.1 = 5) || ((upOf w i).2.1 && ((upOf w i).1.2.2.2 && ((strOf (upOf w i).1.2.2.1).toList == (strOf (rd kClient w.2.1 (i : Int)).2.1).toList)))
theorem s_Ends_eq (w : TWorld) (h : Sm 1048576 kWorld w) : P_s_Ends w = some ((List.range w.2.1.length).all (en w), ()) := by
  have hl : w.2.1.length ≤ 1048576 := (smW_cls h).1
  refine loopB (L_s_Ends_0 P_s_UpAt w) _ (by simp only [maxLen]; omega) (en w) (fun i hi => ?_) (by simp [L_s_Ends_0])
  have h1 : ((i : Int) < (w.2.1.length : Int)) := by omega
  have h2 : (0 : Int) ≤ (i : Int) := by omega
  simp only [L_s_Ends_0, dec_true h1, dec_true h2, cond_true]
  rw [s_UpAt_eq _ _ (smW_ups h)]
  show bindO (some (upOf w i)) _ = _
  simp only [bindO, en]
  cases decide ((rd kClient w.2.1 (i : Int)).2.2.1 = 5) <;> cases (upOf w i).2.1 <;> cases (upOf w i).1.2.2.2 <;> cases ((strOf (upOf w i).1.2.2.1).toList == (strOf (rd kClient w.2.1 (i : Int)).2.1).toList) <;> simp
theorem i_Ends_eq (w : TWorld) (h : Sm 1048576 kWorld w) : P_i_Ends w = some ((List.range w.2.1.length).all (en w), ()) := by
  have hl : w.2.1.length ≤ 1048576 := (smW_cls h).1
  refine loopB (L_i_Ends_0 P_bytes_Equal P_i_UpAt w) _ (by simp only [maxLen]; omega) (en w) (fun i hi => ?_) (by simp [L_i_Ends_0])
  have h1 : ((i : Int) < (w.2.1.length : Int)) := by omega
  have h2 : (0 : Int) ≤ (i : Int) := by omega
  simp only [L_i_Ends_0, dec_true h1, dec_true h2, cond_true]
  rw [i_UpAt_eq _ _ (smW_ups h)]
  show bindO (some (upOf w i)) _ = _
  simp only [bindO, en, P_bytes_Equal, B_bytes_Equal]
  cases decide ((rd kClient w.2.1 (i : Int)).2.2.1 = 5) <;> cases (upOf w i).2.1 <;> cases (upOf w i).1.2.2.2 <;> cases ((strOf (upOf w i).1.2.2.1).toList == (strOf (rd kClient w.2.1 (i : Int)).2.1).toList) <;> simp
/-- The beginning of a list. -/
def beg (a b : List Int) : Bool := decide (a.length ≤ b.length) && (List.range a.length).all fun i => decide (rd (.int .u8) a (i : Int) = rd (.int .u8) b (i : Int))
theorem l19Begins_eq (a b : List Int) (h : a.length ≤ maxLen) : P_s_l19Begins a b = some (beg a b, ()) := by
  simp only [P_s_l19Begins, B_s_l19Begins, beg]
  by_cases hc : a.length ≤ b.length
  · rw [dec_false (by omega), dec_true hc]
    simp only [cond_false, Bool.true_and]
    refine loopB (L_s_l19Begins_0 a b) _ h _ (fun i hi => ?_) (by simp [L_s_l19Begins_0])
    have h1 : ((i : Int) < (a.length : Int)) := by omega
    have h2 : (0 : Int) ≤ (i : Int) := by omega
    have h3 : ((i : Int) < (b.length : Int)) := by omega
    simp only [L_s_l19Begins_0, dec_true h1, dec_true h2, dec_true h3, cond_true]
    cases decide (rd (.int .u8) a (i : Int) = rd (.int .u8) b (i : Int)) <;> simp
  · rw [dec_true (by omega), dec_false hc]
    rfl
theorem u8_inj {x y : Int} (hx : 0 ≤ x ∧ x < 256) (hy : 0 ≤ y ∧ y < 256) (h : UInt8.ofNat x.toNat = UInt8.ofNat y.toNat) : x = y := by
  have := congrArg UInt8.toNat h
  simp only [UInt8.toNat_ofNat'] at this
  omega
theorem strOf_take (a b : List Int) (ha : Byt a) (hb : Byt b) (hc : a.length ≤ b.length) : ((strOf ((b.take a.length).drop 0)).toList == (strOf a).toList) = (List.range a.length).all fun i => decide (rd (.int .u8) a (i : Int) = rd (.int .u8) b (i : Int)) := by
  unfold strOf
  rw [ByteArray.toList_eq, ByteArray.toList_eq, strOfNums_data, strOfNums_data, List.drop_zero, Bool.eq_iff_iff]
  simp only [beq_iff_eq, List.all_eq_true, List.mem_range, decide_eq_true_eq]
  constructor
  · intro e i hi
    rw [rd_int hi, rd_int (show i < b.length by omega)]
    have := congrArg (fun l => l[i]?) e
    simp only [List.getElem?_map] at this
    rw [List.getElem?_take_of_lt hi, List.getElem?_eq_getElem (show i < b.length by omega), List.getElem?_eq_getElem hi] at this
    simp only [Option.map_some, Option.some.injEq] at this
    exact (u8_inj (hb _ (List.getElem_mem _)) (ha _ (List.getElem_mem _)) this).symm
  · intro e
    have : b.take a.length = a := by
      apply List.ext_getElem
      · simp; omega
      · intro i h1 h2
        have := e i h2
        rw [rd_int h2, rd_int (show i < b.length by omega)] at this
        simp [this]
    rw [this]
theorem hasPrefix_eq (a b : List Int) (ha : Byt a) (hb : Byt b) : P_bytes_HasPrefix b a = some (beg a b, ()) := by
  simp only [P_bytes_HasPrefix, B_bytes_HasPrefix, P_bytes_Equal, B_bytes_Equal, beg, bindO]
  by_cases hc : a.length ≤ b.length
  · have g1 : (b.length : Int) ≥ (a.length : Int) := by omega
    have g2 : (0 : Int) ≤ (a.length : Int) := by omega
    have g3 : (a.length : Int) ≤ (b.length : Int) := by omega
    simp only [dec_true g1, dec_true g2, dec_true g3, dec_true hc, Int.toNat_natCast, cond_true, Bool.true_and]
    rw [strOf_take a b ha hb hc]
  · rw [dec_false (show ¬ (b.length : Int) ≥ (a.length : Int) by omega), dec_false hc]
    rfl
def BytW (w : TWorld) : Prop := (∀ u ∈ w.1.1.2.2.2, Byt u.2.2.1) ∧ ∀ c ∈ w.2.1, Byt c.2.1
theorem upOf_byt {w : TWorld} (h : BytW w) (i : Nat) : Byt (upOf w i).1.2.2.1 := by
  unfold upOf upAt
  split
  · rename_i hi
    rw [rd_nat (k := kUp) (xs := w.1.1.2.2.2) hi]
    exact h.1 _ (List.getElem_mem hi)
  · intro x hx; cases hx
theorem file_byt {w : TWorld} (h : BytW w) {i : Nat} (hi : i < w.2.1.length) : Byt (rd kClient w.2.1 (i : Int)).2.1 := by
  rw [rd_nat (k := kClient) (xs := w.2.1) hi]
  exact h.2 _ (List.getElem_mem hi)
def be (w : TWorld) (i : Nat) : Bool := !(upOf w i).2.1 || (beg (upOf w i).1.2.2.1 (rd kClient w.2.1 (i : Int)).2.1 && decide ((upOf w i).1.2.1 = (List.length (rd kClient w.2.1 (i : Int)).2.1 : Int)))
theorem s_Begins_eq (w : TWorld) (h : Sm 1048576 kWorld w) : P_s_Begins w = some ((List.range w.2.1.length).all (be w), ()) := by
  have hl : w.2.1.length ≤ 1048576 := (smW_cls h).1
  refine loopB (L_s_Begins_0 P_s_UpAt P_s_l19Begins w) _ (by simp only [maxLen]; omega) (be w) (fun i hi => ?_) (by simp [L_s_Begins_0])
  have h1 : ((i : Int) < (w.2.1.length : Int)) := by omega
  have h2 : (0 : Int) ≤ (i : Int) := by omega
  simp only [L_s_Begins_0, dec_true h1, dec_true h2, cond_true]
  rw [s_UpAt_eq _ _ (smW_ups h)]
  show bindO (some (upOf w i)) _ = _
  have hd : List.length (upOf w i).1.2.2.1 ≤ 1048576 := upAt_data (smW_ups h) _
  simp only [bindO, be]
  rw [l19Begins_eq _ _ (by simp only [maxLen]; omega)]
  simp only
  cases (upOf w i).2.1 <;> cases beg (upOf w i).1.2.2.1 (rd kClient w.2.1 (i : Int)).2.1 <;> cases decide ((upOf w i).1.2.1 = (List.length (rd kClient w.2.1 (i : Int)).2.1 : Int)) <;> simp
theorem i_Begins_eq (w : TWorld) (h : Sm 1048576 kWorld w) (hb : BytW w) : P_i_Begins w = some ((List.range w.2.1.length).all (be w), ()) := by
  have hl : w.2.1.length ≤ 1048576 := (smW_cls h).1
  refine loopB (L_i_Begins_0 P_bytes_HasPrefix P_i_UpAt w) _ (by simp only [maxLen]; omega) (be w) (fun i hi => ?_) (by simp [L_i_Begins_0])
  have h1 : ((i : Int) < (w.2.1.length : Int)) := by omega
  have h2 : (0 : Int) ≤ (i : Int) := by omega
  simp only [L_i_Begins_0, dec_true h1, dec_true h2, cond_true]
  rw [i_UpAt_eq _ _ (smW_ups h)]
  show bindO (some (upOf w i)) _ = _
  simp only [bindO, be]
  rw [hasPrefix_eq _ _ (upOf_byt hb i) (file_byt hb hi)]
  simp only
  cases (upOf w i).2.1 <;> cases beg (upOf w i).1.2.2.1 (rd kClient w.2.1 (i : Int)).2.1 <;> cases decide ((upOf w i).1.2.1 = (List.length (rd kClient w.2.1 (i : Int)).2.1 : Int)) <;> simp

theorem strs_of {L : Int × Unit → Option ((Int × Unit) ⊕ (Unit ⊕ (Bool × Unit)))} {n : Nat} {go : Nat → Bool} (hs : ∀ i : Nat, i < n → L ((i : Int), ()) = bif go i then some (.inl (((i + 1 : Nat) : Int), ())) else some (.inr (.inr (false, ()))))
    (he : L ((n : Int), ()) = some (.inr (.inl ()))) (g : Unit → Option (Bool × Unit)) (b : Bool) (hg : g () = some (b, ())) : bindS (loopO L (0, ())) g = some (decide (firstN go 0 n = n) && b, ()) := by
  have h := loopO_first L (fun i => ((i : Int), ())) n (fun i => if i = n then .inl () else .inr (false, ())) go (fun i hi => by
    rw [hs i hi]
    cases go i with
    | true => rfl
    | false => simp only [Bool.false_eq_true, if_false, cond_false]; rw [if_neg (by omega)]) (by rw [he, if_pos rfl])
  have h' : loopO L (0, ()) = _ := h
  rw [h']
  by_cases hn : firstN go 0 n = n
  · rw [if_pos hn, dec_true hn]; simp [bindS, hg]
  · rw [if_neg hn, dec_false hn]; simp [bindS]

theorem bOr_i64 {x y : Nat} (hx : x < 9223372036854775808) (hy : y < 9223372036854775808) : bOr .i64 (x : Int) (y : Int) = ((x ||| y : Nat) : Int) := by
  have h : x ||| y < 2 ^ 63 := Nat.or_lt_two_pow (by omega) (by omega)
  unfold bOr
  rw [BitVec.toNat_or, bits_nat (by simp only [IntKind.bits]; omega), bits_nat (by simp only [IntKind.bits]; omega)]
  exact wI64 (by omega)
/-- The number that k bytes from a place on are. -/
def bigN (b : List Int) (at_ : Nat) : Nat → Nat
  | 0 => 0
  | j + 1 => (bigN b at_ j * 256) ||| (b.getD (at_ + j) 0).toNat
theorem byt_getD {b : List Int} (hb : Byt b) (i : Nat) : 0 ≤ b.getD i 0 ∧ b.getD i 0 < 256 := by
  by_cases h : i < b.length
  · simp only [List.getD, List.getElem?_eq_getElem h, Option.getD_some]
    exact hb _ (List.getElem_mem h)
  · simp only [List.getD, List.getElem?_eq_none (show b.length ≤ i by omega), Option.getD_none]
    omega
theorem bigN_lt {b : List Int} (hb : Byt b) (at_ : Nat) : ∀ j, bigN b at_ j < 2 ^ (8 * j)
  | 0 => by simp [bigN]
  | j + 1 => by
    have h1 := bigN_lt hb at_ j
    have h2 := byt_getD hb (at_ + j)
    have e : 2 ^ (8 * (j + 1)) = 2 ^ (8 * j) * 256 := by rw [show 8 * (j + 1) = 8 * j + 8 by omega, Nat.pow_add]
    refine Nat.or_lt_two_pow ?_ ?_
    · rw [e]; exact Nat.mul_lt_mul_of_pos_right h1 (by omega)
    · have : 1 ≤ 2 ^ (8 * j) := Nat.one_le_two_pow
      rw [e]; omega
theorem big_step {b : List Int} (hb : Byt b) (at_ j : Nat) (hj : j < 7) (x : Int) (hx : x = b.getD (at_ + j) 0) : bOr .i64 (IntKind.i64.wrap (((bigN b at_ j : Nat) : Int) * 256)) (IntKind.i64.wrap x) = ((bigN b at_ (j + 1) : Nat) : Int) := by
  have h1 := bigN_lt hb at_ j
  have h2 := byt_getD hb (at_ + j)
  have h3 : 2 ^ (8 * j) ≤ 2 ^ 48 := Nat.pow_le_pow_right (by omega) (by omega)
  subst hx
  rw [show ((bigN b at_ j : Nat) : Int) * 256 = ((bigN b at_ j * 256 : Nat) : Int) by omega, wI64 (by omega), show b.getD (at_ + j) 0 = (((b.getD (at_ + j) 0).toNat : Nat) : Int) by omega, wI64 (by omega), bOr_i64 (by omega) (by omega)]
  simp only [bigN, Int.toNat_natCast]
def getBig (b : List Int) (a : Int) (k : Nat) : Int × Bool × Unit := if 0 ≤ a ∧ a ≤ (b.length : Int) - k then ((bigN b a.toNat k : Int), true, ()) else (0, false, ())
theorem s_GetBig_eq (b : List Int) (hb : Byt b) (h : b.length ≤ 1048576) (a : Int) (k : Nat) (hk : 1 ≤ k ∧ k ≤ 7) : P_s_GetBig b a (k : Int) = some (getBig b a k) := by
  simp only [P_s_GetBig, B_s_GetBig, l1In_eq, bindO, getBig]
  rw [dec_true (show (1 : Int) ≤ (k : Int) ∧ (k : Int) ≤ 7 by omega), w64 (by omega) (by omega)]
  simp only [Bool.not_true, cond_false]
  by_cases h1 : a < 0
  · rw [dec_true h1, if_neg (by omega)]; rfl
  rw [dec_false h1]
  by_cases h2 : a > (b.length : Int) - k
  · rw [dec_true h2, if_neg (by omega)]; rfl
  rw [dec_false h2, if_pos (by omega)]
  simp only [cond_false, bindS]
  have key := loopO_count (L_s_GetBig_0 (k : Int) a b) (fun j => ((bigN b a.toNat j : Int), (j : Int), ())) k ((bigN b a.toNat k : Int), ()) (fun j hj => ?_) ?_
  · have e : loopO (L_s_GetBig_0 (k : Int) a b) (0, 0, ()) = _ := key
    rw [e]
  · have g1 : (j : Int) < (k : Int) := by omega
    simp only [L_s_GetBig_0, dec_true g1, cond_true]
    rw [w64 (n := a + (j : Int)) (by omega) (by omega)]
    have g2 : 0 ≤ a + (j : Int) := by omega
    have g3 : a + (j : Int) < (b.length : Int) := by omega
    rw [dec_true g2, dec_true g3]
    simp only [cond_true]
    rw [big_step hb a.toNat j (by omega) _ (by
      rw [show a + (j : Int) = ((a.toNat + j : Nat) : Int) by omega, rd_int (by omega)]
      simp [List.getD, show a.toNat + j < b.length by omega]), show (j : Int) + 1 = ((j + 1 : Nat) : Int) by omega, wI64 (by omega)]
  · simp [L_s_GetBig_0]
theorem i_GetBig_eq (b : List Int) (hb : Byt b) (h : b.length ≤ 1048576) (a : Int) (k : Nat) (hk : 1 ≤ k ∧ k ≤ 7) : P_i_GetBig b a (k : Int) = some (getBig b a k) := by
  simp only [P_i_GetBig, B_i_GetBig, inRange_eq, bindO, getBig]
  rw [dec_true (show (1 : Int) ≤ (k : Int) ∧ (k : Int) ≤ 7 by omega), w64 (n := (b.length : Int) - (k : Int)) (by omega) (by omega)]
  simp only [Bool.not_true, cond_false]
  by_cases h1 : a < 0
  · rw [dec_true h1, if_neg (by omega)]; rfl
  rw [dec_false h1]
  by_cases h2 : a > (b.length : Int) - k
  · rw [dec_true h2, if_neg (by omega)]; rfl
  rw [dec_false h2, if_pos (by omega)]
  simp only [cond_false, bindS]
  rw [w64 (n := a + (k : Int)) (by omega) (by omega), dec_true (show 0 ≤ a by omega), dec_true (show a ≤ a + (k : Int) by omega), dec_true (show a + (k : Int) ≤ (b.length : Int) by omega)]
  simp only [cond_true]
  have hlen : ((b.take (a + (k : Int)).toNat).drop a.toNat).length = k := by simp; omega
  have key := loopO_count (L_i_GetBig_0 b a (k : Int)) (fun j => ((bigN b a.toNat j : Int), (j : Int), ())) k ((bigN b a.toNat k : Int), ()) (fun j hj => ?_) ?_
  · have e : loopO (L_i_GetBig_0 b a (k : Int)) (0, 0, ()) = _ := key
    rw [e]
  · have g1 : (j : Int) < (k : Int) := by omega
    have g2 : (0 : Int) ≤ (j : Int) := by omega
    simp only [L_i_GetBig_0]
    rw [w64 (n := a + (k : Int)) (by omega) (by omega)]
    simp only [hlen, dec_true g1, dec_true g2, cond_true]
    rw [big_step hb a.toNat j (by omega) _ (by
      rw [rd_int (by rw [hlen]; exact hj)]
      simp [List.getD, show a.toNat + j < b.length by omega]), show (j : Int) + 1 = ((j + 1 : Nat) : Int) by omega, wI64 (by omega)]
  · simp only [L_i_GetBig_0]
    rw [w64 (n := a + (k : Int)) (by omega) (by omega)]
    simp [hlen]

theorem loopO_end {α β : Type} {f : α → Option (α ⊕ β)} {x : α} {z : β} (h : f x = some (.inr z)) : loopO f x = some z := by rw [loopO_eq, h]
theorem strOf_size (xs : List Int) : (strOf xs).size = xs.length := strOfNums_size xs

theorem bAnd_255 (x : Int) : 0 ≤ bAnd .i64 x 255 ∧ bAnd .i64 x 255 ≤ 255 := by
  unfold bAnd
  have h : (BitVec.ofInt IntKind.i64.bits x &&& BitVec.ofInt IntKind.i64.bits 255).toNat ≤ 255 := by
    rw [BitVec.toNat_and]
    have : (BitVec.ofInt IntKind.i64.bits (255 : Int)).toNat = 255 := bits_nat (w := 64) (x := 255) (by omega)
    rw [this]
    exact Nat.and_le_right
  rw [wI64 (by omega)]
  omega
/-- A cursor that draws. -/
def Cur (c : TL1Cur) : Prop := List.length c.1 ≤ 1048576 ∧ 0 ≤ c.2.1 ∧ c.2.1 ≤ 1048576
theorem l1Byte_ok (c : TL1Cur) (h : Cur c) : ∃ r c', P_s_l1Byte c = some (r, c', ()) ∧ Cur c' ∧ 0 ≤ r ∧ r ≤ 255 := by
  obtain ⟨h1, h2, h3⟩ := h
  simp only [P_s_l1Byte, B_s_l1Byte]
  by_cases hi : c.2.1 < (List.length c.1 : Int)
  · simp only [dec_true hi, dec_true h2, cond_true]
    refine ⟨_, _, rfl, ⟨h1, ?_, ?_⟩, bAnd_255 _⟩
    · simp only; rw [w64 (by omega) (by omega)]; omega
    · simp only; rw [w64 (by omega) (by omega)]; omega
  · simp only [dec_false hi, cond_false]
    exact ⟨_, _, rfl, ⟨h1, h2, h3⟩, bAnd_255 _⟩
theorem l1Below_ok (c : TL1Cur) (n : Int) (h : Cur c) (hn : 0 < n ∧ n < 9223372036854775808) : ∃ r c', P_s_l1Below c n = some (r, c', ()) ∧ Cur c' ∧ 0 ≤ r ∧ r < n := by
  simp only [P_s_l1Below, B_s_l1Below]
  rw [dec_false (show ¬ n ≤ 0 by omega)]
  have hz : (n == 0) = false := by simp; omega
  simp only [cond_false, hz]
  by_cases h1 : n ≤ 256
  · rw [dec_true h1]
    obtain ⟨r, c', e, hc, hr⟩ := l1Byte_ok c h
    simp only [cond_true, e, bindO]
    refine ⟨_, _, rfl, hc, ?_⟩
    rw [Int.tmod_eq_emod_of_nonneg hr.1]
    exact ⟨Int.emod_nonneg _ (by omega), Int.emod_lt_of_pos _ (by omega)⟩
  · rw [dec_false h1]
    obtain ⟨r1, c1, e1, hc1, hr1⟩ := l1Byte_ok c h
    obtain ⟨r2, c2, e2, hc2, hr2⟩ := l1Byte_ok c1 hc1
    obtain ⟨r3, c3, e3, hc3, hr3⟩ := l1Byte_ok c2 hc2
    simp only [cond_false, e1, e2, e3, bindO]
    refine ⟨_, _, rfl, hc3, ?_⟩
    rw [w64 (n := r1 * 65536) (by omega) (by omega), w64 (n := r2 * 256) (by omega) (by omega), w64 (n := r1 * 65536 + r2 * 256) (by omega) (by omega), w64 (n := r1 * 65536 + r2 * 256 + r3) (by omega) (by omega)]
    rw [Int.tmod_eq_emod_of_nonneg (by omega)]
    exact ⟨Int.emod_nonneg _ (by omega), Int.emod_lt_of_pos _ (by omega)⟩
theorem l1Int_ok (c : TL1Cur) (xs : List Int) (h : Cur c) (hx : 0 < xs.length ∧ xs.length ≤ 1048576) : ∃ s c', P_s_l1Int c xs = some (s, c', ()) ∧ Cur c' ∧ s ∈ xs := by
  obtain ⟨r, c', e, hc, h0, h1⟩ := l1Below_ok c (xs.length : Int) h (by omega)
  simp only [P_s_l1Int, B_s_l1Int, e, bindO, dec_true h0, dec_true h1, cond_true]
  refine ⟨_, _, rfl, hc, ?_⟩
  obtain ⟨n, rfl⟩ : ∃ n : Nat, r = (n : Int) := ⟨r.toNat, by omega⟩
  rw [rd_int (by omega)]
  exact List.getElem_mem _
theorem wrap_u8 (x : Int) : 0 ≤ IntKind.u8.wrap x ∧ IntKind.u8.wrap x < 256 := by
  simp only [IntKind.wrap, IntKind.bits, IntKind.signed]
  simp
  omega
theorem l1Bytes_ok (c : TL1Cur) (n : Int) (h : Cur c) (hn : 0 ≤ n ∧ n ≤ 1048576) : ∃ b c', P_s_l1Bytes_r0_0 c n = some (b, c', ()) ∧ Cur c' ∧ (List.length b : Int) = n ∧ Byt b := by
  simp only [P_s_l1Bytes_r0_0, B_s_l1Bytes_r0_0]
  obtain ⟨z, e, hz⟩ := loopO_ind (L_s_l1Bytes_r0_0_0 P_s_l1Byte n) (fun l => (n - l.1).toNat) (fun l => 0 ≤ l.1 ∧ l.1 ≤ n ∧ Cur (l.2.1, l.2.2.1, l.2.2.2.1) ∧ (List.length l.2.2.2.2.1 : Int) = l.1 ∧ Byt l.2.2.2.2.1)
    (fun z => Cur z.2.1 ∧ (List.length z.1 : Int) = n ∧ Byt z.1) (fun l hl => by
      obtain ⟨h0, h1, hc, hlen, hb⟩ := hl
      simp only [L_s_l1Bytes_r0_0_0]
      by_cases hi : l.1 < n
      · obtain ⟨r, c', e, hc', hr⟩ := l1Byte_ok _ hc
        refine .inl ⟨(l.1 + 1, c'.1, c'.2.1, c'.2.2, l.2.2.2.2.1 ++ [IntKind.u8.wrap r], ()), ?_, ⟨by simp only; omega, by simp only; omega, hc', by simp; omega, ?_⟩, by simp only; omega⟩
        · rw [dec_true hi, e]
          simp only [cond_true, bindO]
          rw [dec_true (by simp; omega), dec_true (by simp; omega), w64 (by omega) (by omega)]
          rfl
        · intro x hx
          rcases List.mem_append.1 hx with hx | hx
          · exact hb x hx
          · rw [List.mem_singleton.1 hx]; exact wrap_u8 _
      · rw [dec_false hi]
        exact .inr ⟨_, rfl, hc, by simp only; omega, hb⟩) (0, c.1, c.2.1, c.2.2, [], ()) ⟨by simp, hn.1, h, by simp, fun x hx => by cases hx⟩
  exact ⟨z.1, z.2.1, e, hz⟩
theorem l1New_ok (a : List Int) (h : a.length ≤ 1048576) : ∃ c, P_s_l1New a = some (c, ()) ∧ Cur c := by
  simp only [P_s_l1New, B_s_l1New]
  obtain ⟨z, e, _⟩ := loopO_ind (L_s_l1New_0 a) (fun l => ((a.length : Int) - l.2.1).toNat) (fun l => 0 ≤ l.2.1) (fun _ => True) (fun l hl => by
    simp only [L_s_l1New_0]
    by_cases hi : l.2.1 < (a.length : Int)
    · by_cases h4 : l.2.1 < 4000
      · rw [dec_true hi, dec_true h4]
        simp only [cond_true, bindS]
        rw [dec_true hl, w64 (n := l.2.1 + 1) (by omega) (by omega)]
        exact .inl ⟨_, rfl, by simp only; omega, by simp only; omega⟩
      · rw [dec_true hi, dec_false h4]
        exact .inr ⟨_, rfl, trivial⟩
    · rw [dec_false hi]
      exact .inr ⟨_, rfl, trivial⟩) (IntKind.i64.wrap (369369 + (a.length : Int)), 0, ()) (by simp)
  rw [e]
  exact ⟨_, rfl, h, by simp, by simp⟩

def recOkB (r : TRec) : Bool :=
  decide (0 ≤ r.1 ∧ r.1 ≤ 10000) && decide (0 ≤ r.2.1 ∧ r.2.1 ≤ 199) && idB r.2.2.2.1 &&
  (if r.2.2.1 = 1 then decide (0 ≤ r.2.2.2.2.1 ∧ r.2.2.2.2.1 ≤ 1000000000) && decide ((List.length r.2.2.2.2.2 : Int) = 0)
   else if r.2.2.1 = 2 then decide (0 ≤ r.2.2.2.2.1 ∧ r.2.2.2.2.1 ≤ 1000000000) && decide (1 ≤ (List.length r.2.2.2.2.2 : Int) ∧ (List.length r.2.2.2.2.2 : Int) ≤ 24)
   else if r.2.2.1 = 3 ∨ r.2.2.1 = 4 then decide (r.2.2.2.2.1 = 0) && decide ((List.length r.2.2.2.2.2 : Int) = 0) else false)
theorem s_RecOk_eq (r : TRec) (h : r.2.2.2.1.size ≤ maxLen) : P_s_RecOk r = some (recOkB r, ()) := by
  simp only [P_s_RecOk, B_s_RecOk, l11Id_eq _ h, l1In_eq, bindO, recOkB]
  cases decide (0 ≤ r.1 ∧ r.1 ≤ 10000)
  · rfl
  cases decide (0 ≤ r.2.1 ∧ r.2.1 ≤ 199)
  · rfl
  cases idB r.2.2.2.1
  · rfl
  simp only [Bool.not_true, cond_false, bindS, Bool.true_and]
  by_cases h1 : r.2.2.1 = 1
  · rw [dec_true h1, if_pos h1]
    cases decide (0 ≤ r.2.2.2.2.1 ∧ r.2.2.2.2.1 ≤ 1000000000) <;> rfl
  rw [dec_false h1, if_neg h1]
  by_cases h2 : r.2.2.1 = 2
  · rw [dec_true h2, if_pos h2]
    cases decide (0 ≤ r.2.2.2.2.1 ∧ r.2.2.2.2.1 ≤ 1000000000) <;> rfl
  rw [dec_false h2, if_neg h2]
  by_cases h3 : r.2.2.1 = 3
  · rw [dec_true h3, if_pos (.inl h3)]
    cases decide (r.2.2.2.2.1 = 0) <;> rfl
  rw [dec_false h3]
  by_cases h4 : r.2.2.1 = 4
  · rw [dec_true h4, if_pos (.inr h4)]
    cases decide (r.2.2.2.2.1 = 0) <;> rfl
  rw [dec_false h4, if_neg (by omega)]
  rfl
theorem i_RecOk_eq (r : TRec) (h : r.2.2.2.1.size ≤ maxLen) : P_i_RecOk r = some (recOkB r, ()) := by
  simp only [P_i_RecOk, B_i_RecOk, P_i_isEpoch, B_i_isEpoch, idOk_eq _ h, inRange_eq, bindO, recOkB]
  cases decide (0 ≤ r.1 ∧ r.1 ≤ 10000)
  · rfl
  cases decide (0 ≤ r.2.1 ∧ r.2.1 ≤ 199)
  · rfl
  by_cases hk : 1 ≤ r.2.2.1 ∧ r.2.2.1 ≤ 4
  · rw [dec_true hk]
    cases idB r.2.2.2.1
    · rfl
    simp only [Bool.not_true, cond_false, bindS, Bool.true_and]
    by_cases h1 : r.2.2.1 = 1
    · rw [dec_true h1, if_pos h1]
      cases decide (0 ≤ r.2.2.2.2.1 ∧ r.2.2.2.2.1 ≤ 1000000000) <;> rfl
    rw [dec_false h1, if_neg h1]
    by_cases h2 : r.2.2.1 = 2
    · rw [dec_true h2, if_pos h2]
      cases decide (0 ≤ r.2.2.2.2.1 ∧ r.2.2.2.2.1 ≤ 1000000000) <;> rfl
    rw [dec_false h2, if_neg h2, if_pos (by omega)]
    cases decide (r.2.2.2.2.1 = 0) <;> rfl
  · rw [dec_false hk, if_neg (by omega), if_neg (by omega), if_neg (by omega)]
    cases idB r.2.2.2.1 <;> rfl
theorem recOk_bnd {r : TRec} (h : recOkB r = true) : 0 ≤ r.1 ∧ r.1 ≤ 10000 ∧ 1 ≤ r.2.2.1 ∧ r.2.2.1 ≤ 4 ∧ r.2.2.2.1.size ≤ 8 ∧ 0 ≤ r.2.2.2.2.1 ∧ r.2.2.2.2.1 ≤ 1000000000 ∧ List.length r.2.2.2.2.2 ≤ 24 := by
  simp only [recOkB, idB, Bool.and_eq_true, decide_eq_true_eq] at h
  obtain ⟨⟨⟨h1, h2⟩, h3, h4⟩, h5⟩ := h
  split at h5
  · simp only [Bool.and_eq_true, decide_eq_true_eq] at h5; omega
  · split at h5
    · simp only [Bool.and_eq_true, decide_eq_true_eq] at h5; omega
    · split at h5
      · simp only [Bool.and_eq_true, decide_eq_true_eq] at h5; omega
      · cases h5
theorem byt_app {a b : List Int} (ha : Byt a) (hb : Byt b) : Byt (a ++ b) := fun x hx => (List.mem_append.1 hx).elim (ha x) (hb x)
theorem byt_big (n : Int) (k : Nat) : Byt (big n k) := by
  intro x hx
  obtain ⟨j, _, rfl⟩ := List.mem_map.1 hx
  exact wrap_u8 _
theorem byt_bytesOf (s : ByteArray) : Byt (bytesOf s) := by
  intro x hx
  obtain ⟨b, _, rfl⟩ := List.mem_map.1 hx
  have := b.toNat_lt
  omega
theorem byt_nil : Byt [] := fun x hx => by cases hx
theorem byt_drop {a : List Int} (h : Byt a) (i : Nat) : Byt (a.drop i) := fun x hx => h x (List.mem_of_mem_drop hx)
/-- A record's bytes, ahead of its sum. -/
def recB (r : TRec) : List Int :=
  big (clamp r.1) 3 ++ big (clamp r.2.1) 2 ++ big (clamp r.2.2.1) 1 ++ big (clamp (r.2.2.2.1.size : Int)) 1 ++ bytesOf r.2.2.2.1 ++ big (clamp r.2.2.2.2.1) 4 ++ big (clamp (List.length r.2.2.2.2.2 : Int)) 1 ++ r.2.2.2.2.2
def crcI (b : List Int) : Int := ((crcL b ^^^ 4294967295 : Nat) : Int)
def putRec (r : TRec) : ByteArray := strOf (recB r ++ big (clamp (crcI (recB r))) 4)
theorem recB_len (r : TRec) : (recB r).length = 12 + r.2.2.2.1.size + List.length r.2.2.2.2.2 := by
  simp only [recB, List.length_append, big_len, bytesOf_length]
  omega
theorem recB_byt (r : TRec) (h : Byt r.2.2.2.2.2) : Byt (recB r) := by
  unfold recB
  repeat' first | apply byt_app | apply byt_big | apply byt_bytesOf | exact h
theorem s_l13Put_eq (r : TRec) (h1 : r.2.2.2.1.size ≤ 10000000) (h2 : List.length r.2.2.2.2.2 ≤ 10000000) (hb : Byt r.2.2.2.2.2) : P_s_l13Put r = some (putRec r, ()) := by
  have hlen := recB_len r
  simp only [P_s_l13Put, B_s_l13Put]
  rw [show (3 : Int) = ((3 : Nat) : Int) from rfl, s_PutBig_eq [] _ 3 (by omega) (by omega) (by simp)]
  simp only [bindO, List.nil_append]
  rw [show (2 : Int) = ((2 : Nat) : Int) from rfl, s_PutBig_eq _ _ 2 (by omega) (by omega) (by simp [big_len])]
  simp only
  rw [show (1 : Int) = ((1 : Nat) : Int) from rfl, s_PutBig_eq _ _ 1 (by omega) (by omega) (by simp [big_len])]
  simp only
  rw [s_PutBig_eq _ _ 1 (by omega) (by omega) (by simp [big_len])]
  simp only
  rw [dec_true (by simp [big_len]; omega)]
  simp only [cond_true]
  rw [show (4 : Int) = ((4 : Nat) : Int) from rfl, s_PutBig_eq _ _ 4 (by omega) (by omega) (by simp [big_len, bytesOf_length]; omega)]
  simp only
  rw [s_PutBig_eq _ _ 1 (by omega) (by omega) (by simp [big_len, bytesOf_length]; omega)]
  simp only
  rw [dec_true (by simp [big_len, bytesOf_length]; omega), dec_true (by simp [big_len, bytesOf_length]; omega)]
  simp only [cond_true]
  have e : big (clamp r.1) 3 ++ big (clamp r.2.1) 2 ++ big (clamp r.2.2.1) 1 ++ big (clamp (r.2.2.2.1.size : Int)) 1 ++ bytesOf r.2.2.2.1 ++ big (clamp r.2.2.2.2.1) 4 ++ big (clamp (List.length r.2.2.2.2.2 : Int)) 1 ++ r.2.2.2.2.2 = recB r := rfl
  rw [e, s_Crc_eq _ (recB_byt r hb) (by rw [hlen]; simp only [maxLen]; omega)]
  simp only
  rw [s_PutBig_eq _ _ 4 (by omega) (by omega) (by rw [hlen]; omega)]
  rfl
theorem big_one (n : Int) : big n 1 = [IntKind.u8.wrap n] := by
  simp [big, bigAt]
theorem clamp_nn {n : Int} (h : 0 ≤ n) : clamp n = n := by unfold clamp; rw [if_neg (by omega)]
theorem i_PutRec_eq (r : TRec) (h1 : r.2.2.2.1.size ≤ maxLen) (hb : Byt r.2.2.2.2.2) : P_i_PutRec r = some (if recOkB r then putRec r else ⟨#[]⟩, ()) := by
  simp only [P_i_PutRec, B_i_PutRec, i_RecOk_eq r h1]
  cases hr : recOkB r with
  | false => rfl
  | true =>
    have hbd := recOk_bnd hr
    have hlen := recB_len r
    simp only [bindO, Bool.not_true, cond_false]
    rw [show (3 : Int) = ((3 : Nat) : Int) from rfl, i_putBig_eq [] _ 3 (by omega) (by simp)]
    simp only [List.nil_append]
    rw [show (2 : Int) = ((2 : Nat) : Int) from rfl, i_putBig_eq _ _ 2 (by omega) (by simp [big_len])]
    simp only
    rw [dec_true (by simp [big_len]), dec_true (by simp [big_len])]
    simp only [cond_true]
    rw [dec_true (by simp [big_len]; omega)]
    simp only [cond_true]
    rw [show (4 : Int) = ((4 : Nat) : Int) from rfl, i_putBig_eq _ _ 4 (by omega) (by simp [big_len, bytesOf_length]; omega)]
    simp only
    rw [dec_true (by simp [big_len, bytesOf_length]; omega), dec_true (by simp [big_len, bytesOf_length]; omega)]
    simp only [cond_true]
    rw [dec_true (by simp [big_len, bytesOf_length]; omega), dec_true (by simp [big_len, bytesOf_length]; omega)]
    simp only [cond_true]
    have e : big (clamp r.1) 3 ++ big (clamp r.2.1) 2 ++ [IntKind.u8.wrap r.2.2.1, IntKind.u8.wrap (r.2.2.2.1.size : Int)] ++ bytesOf r.2.2.2.1 ++ big (clamp r.2.2.2.2.1) 4 ++ [IntKind.u8.wrap (List.length r.2.2.2.2.2 : Int)] ++ r.2.2.2.2.2 = recB r := by
      unfold recB
      rw [big_one, big_one, big_one, clamp_nn (n := r.2.2.1) (by omega), clamp_nn (n := (r.2.2.2.1.size : Int)) (by omega), clamp_nn (n := (List.length r.2.2.2.2.2 : Int)) (by omega)]
      simp [List.append_assoc]
    rw [e, i_Crc_eq _ (recB_byt r hb) (by rw [hlen]; simp only [maxLen]; omega)]
    simp only
    rw [i_putBig_eq _ _ 4 (by omega) (by rw [hlen]; omega)]
    rfl
def idLen (b : List Int) : Nat := bigN b 6 1
def datLen (b : List Int) : Nat := bigN b (11 + idLen b) 1
/-- The record that bytes tell, if they are long enough. -/
def recAt (b : List Int) : TRec := ((bigN b 0 3 : Int), (bigN b 3 2 : Int), (bigN b 5 1 : Int), strOf ((b.take (7 + idLen b)).drop 7), (bigN b (7 + idLen b) 4 : Int), (b.take (12 + idLen b + datLen b)).drop (12 + idLen b))
def noRec : TRec × Bool × Unit := ((0, 0, 0, ⟨#[]⟩, 0, []), false, ())
def recGood (s : ByteArray) : Bool := decide (12 + idLen (bytesOf s) + datLen (bytesOf s) ≤ s.size) && recOkB (recAt (bytesOf s)) && ((putRec (recAt (bytesOf s))).toList == s.toList)
def getRec (s : ByteArray) : TRec × Bool × Unit := if recGood s = true then (recAt (bytesOf s), true, ()) else noRec
theorem getBig_ok (b : List Int) (a k : Nat) (h : a + k ≤ b.length) : getBig b (a : Int) k = ((bigN b a k : Int), true, ()) := by
  unfold getBig
  rw [if_pos (by omega), Int.toNat_natCast]
theorem getBig_no (b : List Int) (a k : Nat) (h : ¬ a + k ≤ b.length) : getBig b (a : Int) k = (0, false, ()) := by
  unfold getBig
  rw [if_neg (by omega)]
theorem big1_lt {b : List Int} (hb : Byt b) (a : Nat) : bigN b a 1 < 256 := by
  have := bigN_lt hb a 1
  omega
theorem recAt_len (b : List Int) (h : 12 + idLen b + datLen b ≤ b.length) : (recAt b).2.2.2.1.size = idLen b ∧ List.length (recAt b).2.2.2.2.2 = datLen b := by
  simp only [recAt, strOf_size, List.length_drop, List.length_take]
  omega
theorem recAt_byt {b : List Int} (hb : Byt b) : Byt (recAt b).2.2.2.2.2 := byt_drop (byt_take hb _) _
theorem s_GetRec_eq (s : ByteArray) (hs : s.size ≤ 1048576) : P_s_GetRec s = some (getRec s) := by
  have hbl := bytesOf_length s
  have hb := byt_bytesOf s
  have hh : (bytesOf s).length ≤ 1048576 := by omega
  have hsz : s.size = (bytesOf s).length := hbl.symm
  simp only [getRec, recGood, hsz]
  have hlen : decide ((bytesOf s).length ≤ 9223372036854775807) = true := dec_true (by omega)
  simp only [P_s_GetRec, B_s_GetRec, hsz, hlen, cond_true]
  clear hlen hsz
  generalize bytesOf s = b at hb hh ⊢
  clear hbl
  have g0 : ∀ (a : Int) (k : Nat) (k' : Int), k' = (k : Int) → 1 ≤ k ∧ k ≤ 7 → P_s_GetBig b a k' = some (getBig b a k) := fun a k k' e hk => by rw [e]; exact s_GetBig_eq b hb hh a k hk
  have q0 := g0 0 3 3 rfl (by omega)
  have q3 := g0 3 2 2 rfl (by omega)
  have q5 := g0 5 1 1 rfl (by omega)
  have q6 := g0 6 1 1 rfl (by omega)
  simp only [q0, q3, q5, q6]
  by_cases c1 : 7 ≤ b.length
  · have e0 := getBig_ok b 0 3 (by omega)
    have e3 := getBig_ok b 3 2 (by omega)
    have e5 := getBig_ok b 5 1 (by omega)
    have e6 := getBig_ok b 6 1 (by omega)
    simp only [Int.cast_ofNat_Int] at e0 e3 e5 e6
    have hn := big1_lt hb 6
    have hN : (bigN b 6 1 : Int) = ((idLen b : Nat) : Int) := rfl
    have hn' : idLen b < 256 := hn
    simp only [e0, e3, e5, e6, bindO, Bool.not_true, cond_false, hN]
    rw [w64 (n := 7 + (idLen b : Int)) (by omega) (by omega), w64 (n := 11 + (idLen b : Int)) (by omega) (by omega), w64 (n := 12 + (idLen b : Int)) (by omega) (by omega)]
    by_cases c2 : 7 + idLen b ≤ b.length
    · rw [dec_false (show ¬ 7 + (idLen b : Int) > (b.length : Int) by omega)]
      simp only [cond_false, bindS]
      rw [dec_true (show 7 ≤ 7 + (idLen b : Int) by omega), dec_true (show 7 + (idLen b : Int) ≤ (b.length : Int) by omega)]
      simp only [cond_true]
      have q7 := g0 (7 + (idLen b : Int)) 4 4 rfl (by omega)
      have q11 := g0 (11 + (idLen b : Int)) 1 1 rfl (by omega)
      simp only [q7, q11]
      by_cases c3 : 12 + idLen b ≤ b.length
      · have e7 := getBig_ok b (7 + idLen b) 4 (by omega)
        have e11 := getBig_ok b (11 + idLen b) 1 (by omega)
        simp only [Int.natCast_add, Int.cast_ofNat_Int] at e7 e11
        have hm : datLen b < 256 := big1_lt hb _
        have hM : (bigN b (11 + idLen b) 1 : Int) = ((datLen b : Nat) : Int) := rfl
        simp only [e7, e11, Bool.not_true, cond_false, hM]
        rw [w64 (n := 12 + (idLen b : Int) + (datLen b : Int)) (by omega) (by omega)]
        by_cases c4 : 12 + idLen b + datLen b ≤ b.length
        · rw [dec_false (show ¬ 12 + (idLen b : Int) + (datLen b : Int) > (b.length : Int) by omega), dec_true (show 0 ≤ 12 + (idLen b : Int) by omega), dec_true (show 12 + (idLen b : Int) ≤ 12 + (idLen b : Int) + (datLen b : Int) by omega), dec_true (show 12 + (idLen b : Int) + (datLen b : Int) ≤ (b.length : Int) by omega)]
          simp only [cond_true, cond_false]
          rw [dec_true (by simp; omega), dec_true (by simp; omega)]
          have t1 : (7 + (idLen b : Int)).toNat = 7 + idLen b := by omega
          have t2 : (12 + (idLen b : Int) + (datLen b : Int)).toNat = 12 + idLen b + datLen b := by omega
          have t3 : (12 + (idLen b : Int)).toNat = 12 + idLen b := by omega
          simp only [cond_true, List.nil_append, t1, t2, t3]
          have hr : (((bigN b 0 3 : Nat) : Int), ((bigN b 3 2 : Nat) : Int), ((bigN b 5 1 : Nat) : Int), strOf ((b.take (7 + idLen b)).drop 7), ((bigN b (7 + idLen b) 4 : Nat) : Int), (b.take (12 + idLen b + datLen b)).drop (12 + idLen b)) = recAt b := rfl
          obtain ⟨l1, l2⟩ := recAt_len b c4
          rw [hr, s_RecOk_eq _ (by rw [l1]; simp only [maxLen]; omega), s_l13Put_eq _ (by rw [l1]; omega) (by rw [l2]; omega) (recAt_byt hb)]
          rw [dec_true c4]
          simp only [Bool.true_and]
          cases recOkB (recAt b)
          · rfl
          · cases hp : ((putRec (recAt b)).toList == s.toList)
            · rfl
            · rfl
        · rw [dec_true (show 12 + (idLen b : Int) + (datLen b : Int) > (b.length : Int) by omega), dec_false c4]
          rfl
      · have e11 := getBig_no b (11 + idLen b) 1 (by omega)
        simp only [Int.natCast_add, Int.cast_ofNat_Int] at e11
        simp only [e11]
        rw [dec_false (show ¬ 12 + idLen b + datLen b ≤ b.length by omega)]
        cases (getBig b (7 + (idLen b : Int)) 4).2.1 <;> rfl
    · rw [dec_true (show 7 + (idLen b : Int) > (b.length : Int) by omega), dec_false (show ¬ 12 + idLen b + datLen b ≤ b.length by omega)]
      rfl
  · have e6 := getBig_no b 6 1 (by omega)
    simp only [Int.cast_ofNat_Int] at e6
    rw [dec_false (show ¬ 12 + idLen b + datLen b ≤ b.length by omega)]
    simp only [e6, bindO]
    cases (getBig b 0 3).2.1 <;> cases (getBig b 3 2).2.1 <;> cases (getBig b 5 1).2.1 <;> rfl
theorem num_good {b : List Int} (hb : Byt b) (hh : b.length ≤ 1048576) (a k : Nat) (k' : Int) (e : k' = (k : Int)) (hk : 1 ≤ k ∧ k ≤ 7) (h : a + k ≤ b.length) : P_i_byteReader_number (b, (a : Int), false) k' = some ((bigN b a k : Int), (b, ((a + k : Nat) : Int), false), ()) := by
  subst e
  simp only [P_i_byteReader_number, B_i_byteReader_number, i_GetBig_eq b hb hh _ k hk, getBig_ok b a k h, bindO, bindS, Bool.not_true, cond_false]
  rw [w64 (by omega) (by omega)]
  rfl
theorem num_short {b : List Int} (hb : Byt b) (hh : b.length ≤ 1048576) (a k : Nat) (k' : Int) (e : k' = (k : Int)) (hk : 1 ≤ k ∧ k ≤ 7) (h : ¬ a + k ≤ b.length) : P_i_byteReader_number (b, (a : Int), false) k' = some (0, (b, (a : Int), true), ()) := by
  subst e
  simp only [P_i_byteReader_number, B_i_byteReader_number, i_GetBig_eq b hb hh _ k hk, getBig_no b a k h, bindO, bindS, Bool.not_false, cond_false, cond_true]
theorem num_bad {b : List Int} (hb : Byt b) (hh : b.length ≤ 1048576) (a : Int) (k : Nat) (k' : Int) (e : k' = (k : Int)) (hk : 1 ≤ k ∧ k ≤ 7) : P_i_byteReader_number (b, a, true) k' = some (0, (b, a, true), ()) := by
  subst e
  simp only [P_i_byteReader_number, B_i_byteReader_number, i_GetBig_eq b hb hh _ k hk, bindO, bindS, cond_true]
theorem take_bad (b : List Int) (a n : Int) : P_i_byteReader_take (b, a, true) n = some ([], (b, a, true), ()) := by
  simp only [P_i_byteReader_take, B_i_byteReader_take, cond_true, bindS]
theorem take_good {b : List Int} (hh : b.length ≤ 1048576) (a n : Nat) (h : a + n ≤ b.length) : P_i_byteReader_take (b, (a : Int), false) (n : Int) = some ((b.take (a + n)).drop a, (b, ((a + n : Nat) : Int), false), ()) := by
  simp only [P_i_byteReader_take, B_i_byteReader_take, cond_false]
  rw [w64 (n := (b.length : Int) - (a : Int)) (by omega) (by omega), dec_false (by omega), w64 (n := (a : Int) + (n : Int)) (by omega) (by omega), w64 (n := (a : Int) + (n : Int) - (n : Int)) (by omega) (by omega)]
  simp only [cond_false, bindS]
  rw [dec_true (by omega), dec_true (by omega), dec_true (by omega)]
  simp only [cond_true]
  rw [clone_byte_eq _ (by simp; omega), show ((a : Int) + (n : Int)).toNat = a + n by omega, show ((a : Int) + (n : Int) - (n : Int)).toNat = a by omega]
  rfl
theorem take_short {b : List Int} (hh : b.length ≤ 1048576) (a n : Nat) (ha : a ≤ b.length) (h : ¬ a + n ≤ b.length) : P_i_byteReader_take (b, (a : Int), false) (n : Int) = some ([], (b, (a : Int), true), ()) := by
  simp only [P_i_byteReader_take, B_i_byteReader_take, cond_false]
  rw [w64 (n := (b.length : Int) - (a : Int)) (by omega) (by omega), dec_true (by omega)]
  rfl
theorem i_GetRec_eq (s : ByteArray) (hs : s.size ≤ 1048576) : P_i_GetRec s = some (getRec s) := by
  have hbl := bytesOf_length s
  have hb := byt_bytesOf s
  have hh : (bytesOf s).length ≤ 1048576 := by omega
  have hsz : s.size = (bytesOf s).length := hbl.symm
  simp only [getRec, recGood, hsz]
  have hlen : decide ((bytesOf s).length ≤ 9223372036854775807) = true := dec_true (by omega)
  simp only [P_i_GetRec, B_i_GetRec, hsz, hlen, cond_true]
  clear hlen hsz
  generalize bytesOf s = b at hb hh ⊢
  clear hbl
  have nb : ∀ (a : Int) (k : Nat) (k' : Int), k' = (k : Int) → 1 ≤ k ∧ k ≤ 7 → P_i_byteReader_number (b, a, true) k' = some (0, (b, a, true), ()) := fun a k k' e hk => num_bad hb hh a k k' e hk
  have nb1 : ∀ a : Int, P_i_byteReader_number (b, a, true) 1 = some (0, (b, a, true), ()) := fun a => nb a 1 1 rfl (by omega)
  have nb2 : ∀ a : Int, P_i_byteReader_number (b, a, true) 2 = some (0, (b, a, true), ()) := fun a => nb a 2 2 rfl (by omega)
  have nb4 : ∀ a : Int, P_i_byteReader_number (b, a, true) 4 = some (0, (b, a, true), ()) := fun a => nb a 4 4 rfl (by omega)
  have tb := take_bad b
  have z0 : ((0 : Int), false) = (((0 : Nat) : Int), false) := rfl
  rw [z0]
  by_cases c4 : 12 + idLen b + datLen b ≤ b.length
  · have hn' : idLen b < 256 := big1_lt hb _
    have hm' : datLen b < 256 := big1_lt hb _
    have hN : (bigN b 6 1 : Int) = ((idLen b : Nat) : Int) := rfl
    have hM : (bigN b (11 + idLen b) 1 : Int) = ((datLen b : Nat) : Int) := rfl
    rw [num_good hb hh 0 3 3 rfl (by omega) (by omega)]
    simp only [bindO]
    rw [num_good hb hh (0 + 3) 2 2 rfl (by omega) (by omega)]
    simp only
    rw [num_good hb hh (0 + 3 + 2) 1 1 rfl (by omega) (by omega)]
    simp only
    rw [num_good hb hh (0 + 3 + 2 + 1) 1 1 rfl (by omega) (by omega)]
    simp only [Nat.zero_add, Nat.reduceAdd, hN]
    rw [take_good hh 7 (idLen b) (by omega)]
    simp only
    rw [num_good hb hh (7 + idLen b) 4 4 rfl (by omega) (by omega)]
    simp only
    rw [num_good hb hh (7 + idLen b + 4) 1 1 rfl (by omega) (by omega)]
    simp only
    rw [show 7 + idLen b + 4 = 11 + idLen b by omega, hM, show 11 + idLen b + 1 = 12 + idLen b by omega, take_good hh (12 + idLen b) (datLen b) (by omega)]
    simp only [cond_false]
    have hr : (((bigN b 0 3 : Nat) : Int), ((bigN b 3 2 : Nat) : Int), ((bigN b 5 1 : Nat) : Int), strOf ((b.take (7 + idLen b)).drop 7), ((bigN b (7 + idLen b) 4 : Nat) : Int), (b.take (12 + idLen b + datLen b)).drop (12 + idLen b)) = recAt b := rfl
    obtain ⟨l1, l2⟩ := recAt_len b c4
    rw [hr, i_RecOk_eq _ (by rw [l1]; simp only [maxLen]; omega), i_PutRec_eq _ (by rw [l1]; simp only [maxLen]; omega) (recAt_byt hb)]
    rw [dec_true c4]
    simp only [Bool.true_and]
    cases recOkB (recAt b)
    · rfl
    · cases hp : ((putRec (recAt b)).toList == s.toList)
      · simp [hp]; rfl
      · simp [hp]
  · rw [dec_false c4]
    have fin : (if (false && recOkB (recAt b) && ((putRec (recAt b)).toList == s.toList)) = true then (recAt b, true, ()) else noRec) = noRec := by simp
    rw [fin]
    rcases Nat.lt_or_ge b.length (0 + 3) with d3 | d3
    · rw [num_short hb hh 0 3 3 rfl (by omega) (by omega)]
      simp only [bindO, nb1, nb2, nb4, tb]
      rfl
    rw [num_good hb hh 0 3 3 rfl (by omega) d3]
    simp only [bindO]
    rcases Nat.lt_or_ge b.length (0 + 3 + 2) with d5 | d5
    · rw [num_short hb hh (0 + 3) 2 2 rfl (by omega) (by omega)]
      simp only [nb1, nb2, nb4, tb]
      rfl
    rw [num_good hb hh (0 + 3) 2 2 rfl (by omega) d5]
    simp only
    rcases Nat.lt_or_ge b.length (0 + 3 + 2 + 1) with d6 | d6
    · rw [num_short hb hh (0 + 3 + 2) 1 1 rfl (by omega) (by omega)]
      simp only [nb1, nb2, nb4, tb]
      rfl
    rw [num_good hb hh (0 + 3 + 2) 1 1 rfl (by omega) d6]
    simp only
    rcases Nat.lt_or_ge b.length (0 + 3 + 2 + 1 + 1) with d7 | d7
    · rw [num_short hb hh (0 + 3 + 2 + 1) 1 1 rfl (by omega) (by omega)]
      simp only [nb1, nb2, nb4, tb]
      rfl
    rw [num_good hb hh (0 + 3 + 2 + 1) 1 1 rfl (by omega) d7]
    have hN : (bigN b 6 1 : Int) = ((idLen b : Nat) : Int) := rfl
    have hM : (bigN b (11 + idLen b) 1 : Int) = ((datLen b : Nat) : Int) := rfl
    simp only [Nat.zero_add, Nat.reduceAdd, hN]
    rcases Nat.lt_or_ge b.length (7 + idLen b) with e7 | e7
    · rw [take_short hh 7 (idLen b) (by omega) (by omega)]
      simp only [nb1, nb2, nb4, tb]
      rfl
    rw [take_good hh 7 (idLen b) e7]
    simp only
    rcases Nat.lt_or_ge b.length (7 + idLen b + 4) with e11 | e11
    · rw [num_short hb hh (7 + idLen b) 4 4 rfl (by omega) (by omega)]
      simp only [nb1, nb2, nb4, tb]
      rfl
    rw [num_good hb hh (7 + idLen b) 4 4 rfl (by omega) e11]
    simp only
    rcases Nat.lt_or_ge b.length (7 + idLen b + 4 + 1) with e12 | e12
    · rw [num_short hb hh (7 + idLen b + 4) 1 1 rfl (by omega) (by omega)]
      simp only [nb1, nb2, nb4, tb]
      rfl
    rw [num_good hb hh (7 + idLen b + 4) 1 1 rfl (by omega) e12]
    simp only
    rw [show 7 + idLen b + 4 = 11 + idLen b by omega, hM, show 11 + idLen b + 1 = 12 + idLen b by omega, take_short hh (12 + idLen b) (datLen b) (by omega) c4]
    rfl

theorem bl_irrefl : ∀ x : List UInt8, Op.bytesLess x x = false
  | [] => rfl
  | a :: x => by
    have h : ¬ a < a := UInt8.lt_irrefl a
    simp [Op.bytesLess, bl_irrefl x, h]
theorem bl_trans : ∀ {x y z : List UInt8}, Op.bytesLess x y = true → Op.bytesLess y z = true → Op.bytesLess x z = true
  | _, [], _, h, _ => by cases ‹List UInt8› <;> simp [Op.bytesLess] at h
  | _, _ :: _, [], _, h => by simp [Op.bytesLess] at h
  | [], _ :: _, _ :: _, _, _ => rfl
  | a :: x, b :: y, c :: z, h1, h2 => by
    simp only [Op.bytesLess, Bool.or_eq_true, Bool.and_eq_true, decide_eq_true_eq, beq_iff_eq] at h1 h2 ⊢
    rcases h1 with h1 | ⟨rfl, h1⟩
    · rcases h2 with h2 | ⟨rfl, h2⟩
      · exact .inl (UInt8.lt_trans h1 h2)
      · exact .inl h1
    · rcases h2 with h2 | ⟨rfl, h2⟩
      · exact .inl h2
      · exact .inr ⟨rfl, bl_trans h1 h2⟩
theorem bl_total : ∀ {x y : List UInt8}, Op.bytesLess x y = false → Op.bytesLess y x = false → x = y
  | [], [], _, _ => rfl
  | [], _ :: _, h, _ => by simp [Op.bytesLess] at h
  | _ :: _, [], _, h => by simp [Op.bytesLess] at h
  | a :: x, b :: y, h1, h2 => by
    simp only [Op.bytesLess, Bool.or_eq_false_iff, decide_eq_false_iff_not, Bool.and_eq_false_iff, beq_eq_false_iff_ne] at h1 h2
    have hab : a = b := by
      apply UInt8.le_antisymm
      · exact UInt8.not_lt.1 h2.1
      · exact UInt8.not_lt.1 h1.1
    subst hab
    exact congrArg (a :: ·) (bl_total (by simpa using h1.2) (by simpa using h2.2))
theorem bl_asymm {x y : List UInt8} (h : Op.bytesLess x y = true) : Op.bytesLess y x = false := by
  cases e : Op.bytesLess y x with
  | false => rfl
  | true => have := bl_trans h e; rw [bl_irrefl] at this; cases this
/-- Uploads in the order of their names. -/
def Ord (us : List TUp) : Prop := us.Pairwise fun a b => Op.bytesLess a.1.toList b.1.toList = true
theorem ord_at {us : List TUp} (h : Ord us) {i j : Nat} (hij : i < j) (hj : j < us.length) : Op.bytesLess (us[i]'(by omega)).1.toList us[j].1.toList = true := List.pairwise_iff_getElem.1 h i j (by omega) hj hij
/-- Where an upload would stand. -/
def upIns (us : List TUp) (id : ByteArray) : Nat := firstN (fun i => Op.bytesLess (rd kUp us (i : Int)).1.toList id.toList) 0 us.length
def upHas (us : List TUp) (id : ByteArray) : Bool := decide (upIns us id < us.length) && ((rd kUp us (upIns us id : Int)).1.toList == id.toList)
theorem firstN_goes (go : Nat → Bool) : ∀ k i j, i ≤ j → j < firstN go i k → go j = true
  | 0, i, j, h1, h2 => by simp only [firstN] at h2; omega
  | k + 1, i, j, h1, h2 => by
    simp only [firstN] at h2
    split at h2
    · rename_i hg
      by_cases e : j = i
      · rw [e]; exact hg
      · exact firstN_goes go k (i + 1) j (by omega) h2
    · omega
theorem firstN_uniq (go : Nat → Bool) (n p : Nat) (hp : p ≤ n) (h1 : ∀ j, j < p → go j = true) (h2 : p < n → go p = false) : firstN go 0 n = p := by
  have hl := firstN_le go n 0
  rcases Nat.lt_trichotomy (firstN go 0 n) p with h | h | h
  · have := firstN_fails go n 0 (by omega)
    rw [h1 _ h] at this; cases this
  · exact h
  · have := firstN_goes go n 0 p (by omega) h
    rw [h2 (by omega)] at this; cases this
theorem upIns_le (us : List TUp) (id : ByteArray) : upIns us id ≤ us.length := by have := firstN_le (fun i => Op.bytesLess (rd kUp us (i : Int)).1.toList id.toList) us.length 0; unfold upIns; omega
theorem upIns_lo {us : List TUp} {id : ByteArray} {j : Nat} (hj : j < upIns us id) : Op.bytesLess (us[j]'(by have := upIns_le us id; omega)).1.toList id.toList = true := by
  have := firstN_goes _ us.length 0 j (by omega) hj
  rwa [rd_nat (k := kUp) (xs := us) (by have := upIns_le us id; omega)] at this
theorem upIns_at {us : List TUp} {id : ByteArray} (h : upIns us id < us.length) : Op.bytesLess us[upIns us id].1.toList id.toList = false := by
  have := firstN_fails (fun i => Op.bytesLess (rd kUp us (i : Int)).1.toList id.toList) us.length 0 (by unfold upIns at h; omega)
  have h2 : Op.bytesLess (rd kUp us (upIns us id : Int)).1.toList id.toList = false := this
  rwa [rd_nat (k := kUp) (xs := us) h] at h2
theorem upIns_hi {us : List TUp} (ho : Ord us) {id : ByteArray} {j : Nat} (hj : upIns us id ≤ j) (hl : j < us.length) : Op.bytesLess us[j].1.toList id.toList = false := by
  rcases Nat.eq_or_lt_of_le hj with e | h
  · subst e; exact upIns_at hl
  · cases e : Op.bytesLess us[j].1.toList id.toList with
    | false => rfl
    | true =>
      have := bl_trans (ord_at ho h hl) e
      rw [upIns_at (by omega)] at this
      cases this
theorem upHas_iff {us : List TUp} {id : ByteArray} : upHas us id = true ↔ ∃ h : upIns us id < us.length, us[upIns us id].1.toList = id.toList := by
  unfold upHas
  constructor
  · intro h
    simp only [Bool.and_eq_true, decide_eq_true_eq, beq_iff_eq] at h
    refine ⟨h.1, ?_⟩
    have h2 := h.2
    rwa [rd_nat (k := kUp) (xs := us) h.1] at h2
  · rintro ⟨h, e⟩
    simp only [Bool.and_eq_true, decide_eq_true_eq, beq_iff_eq]
    refine ⟨h, ?_⟩
    rw [rd_nat (k := kUp) (xs := us) h]
    exact e
/-- Where there is no such upload, all from its place on are greater. -/
theorem upIns_gt {us : List TUp} (ho : Ord us) {id : ByteArray} (hn : upHas us id = false) {j : Nat} (hj : upIns us id ≤ j) (hl : j < us.length) : Op.bytesLess id.toList us[j].1.toList = true := by
  cases e : Op.bytesLess id.toList us[j].1.toList with
  | true => rfl
  | false =>
    have h1 := bl_total (upIns_hi ho hj hl) e
    exfalso
    rcases Nat.eq_or_lt_of_le hj with e2 | h
    · subst e2
      have := upHas_iff.2 ⟨hl, h1⟩
      rw [hn] at this; cases this
    · have h2 := ord_at ho h hl
      rw [h1, upIns_at (by omega)] at h2
      cases h2
theorem upIx_has {us : List TUp} (ho : Ord us) {id : ByteArray} (h : upHas us id = true) : upIx us id = upIns us id := by
  obtain ⟨hl, e⟩ := upHas_iff.1 h
  refine firstN_uniq _ us.length _ (upIns_le us id) (fun j hj => ?_) (fun _ => ?_)
  · rw [rd_nat (k := kUp) (xs := us) (by omega)]
    have h1 := upIns_lo hj
    cases e2 : ((us[j]'(by omega)).1.toList == id.toList) with
    | false => rfl
    | true =>
      rw [eq_of_beq e2, bl_irrefl] at h1
      cases h1
  · rw [rd_nat (k := kUp) (xs := us) hl, e]
    simp
theorem upIx_not {us : List TUp} (ho : Ord us) {id : ByteArray} (h : upHas us id = false) : upIx us id = us.length := by
  refine firstN_uniq _ us.length _ (Nat.le_refl _) (fun j hj => ?_) (fun h => by omega)
  rw [rd_nat (k := kUp) (xs := us) hj]
  cases e2 : (us[j].1.toList == id.toList) with
  | false => rfl
  | true =>
    exfalso
    have e3 := eq_of_beq e2
    by_cases hp : j < upIns us id
    · have h1 := upIns_lo hp
      rw [e3, bl_irrefl] at h1
      cases h1
    · have h1 := upIns_gt ho h (show upIns us id ≤ j by omega) hj
      rw [e3, bl_irrefl] at h1
      cases h1
theorem i_upAt_eq (us : List TUp) (id : ByteArray) (h : us.length ≤ maxLen) : P_i_upAt us id = some ((upIns us id : Int), upHas us id, ()) := by
  simp only [P_i_upAt, B_i_upAt]
  have e := loopO_first (L_i_upAt_0 us id) (fun i => ((i : Int), ())) us.length (fun i => ((i : Int), ())) (fun i => Op.bytesLess (rd kUp us (i : Int)).1.toList id.toList) (fun i hi => ?_) ?_
  · have e' : loopO (L_i_upAt_0 us id) (0, ()) = some ((upIns us id : Int), ()) := e
    rw [e']
    simp only [bindO]
    have hle := upIns_le us id
    unfold upHas
    by_cases hl : upIns us id < us.length
    · rw [dec_true (show (upIns us id : Int) < (us.length : Int) by omega), dec_true (show (0 : Int) ≤ (upIns us id : Int) by omega), dec_true hl]
      simp
    · rw [dec_false (show ¬ (upIns us id : Int) < (us.length : Int) by omega), dec_false hl]
      simp
  · have h1 : ((i : Int) < (us.length : Int)) := by omega
    have h2 : (0 : Int) ≤ (i : Int) := by omega
    simp only [L_i_upAt_0, dec_true h1, dec_true h2, cond_true]
    rw [w64 (by omega) (by simp only [maxLen] at h; omega)]
    cases Op.bytesLess (rd kUp us (i : Int)).1.toList id.toList <;> simp
  · simp [L_i_upAt_0]
theorem copyUps_eq (us : List TUp) (h : us.length ≤ 1048576) (hd : ∀ u ∈ us, List.length u.2.2.1 ≤ 2000000000) : P_s_l14CopyUps us = some (us, ()) := by
  simp only [P_s_l14CopyUps, B_s_l14CopyUps]
  have key := loopO_count (L_s_l14CopyUps_0 us) (fun i => ((i : Int), us.take i, ())) us.length (us, ()) (fun i hi => ?_) ?_
  · simpa using key
  · have h1 : ((i : Int) < (us.length : Int)) := by omega
    have h2 : (0 : Int) ≤ (i : Int) := by omega
    have hu : List.length (rd kUp us (i : Int)).2.2.1 ≤ 2000000000 := by
      rw [rd_nat (k := kUp) (xs := us) hi]
      exact hd _ (List.getElem_mem hi)
    have e : ((rd kUp us (i : Int)).1, (rd kUp us (i : Int)).2.1, [] ++ (rd kUp us (i : Int)).2.2.1, (rd kUp us (i : Int)).2.2.2) = us[i] := by
      rw [rd_nat (k := kUp) (xs := us) hi]
      rfl
    simp only [L_s_l14CopyUps_0, dec_true h1, dec_true h2, cond_true, e]
    rw [dec_true (by simp; omega), dec_true (by simp; omega), dec_true (by simp; omega), dec_true (by simp; omega), w64 (by omega) (by omega)]
    simp only [cond_true]
    rw [List.take_succ_eq_append_getElem hi]
    rfl
  · simp [L_s_l14CopyUps_0]
/-- The reference's upload in order: somewhere; at its place, if it is not there yet. -/
theorem l14Make_eq (us : List TUp) (u : TUp) (ho : Ord us) (h : us.length ≤ 1048576) (hd : ∀ u ∈ us, List.length u.2.2.1 ≤ 2000000000) :
    ∃ k, k ≤ us.length ∧ P_s_l14Make_r98_0_r99_0 us u = some (us.take k ++ u :: us.drop k, ()) ∧ (upHas us u.1 = false → k = upIns us u.1) := by
  simp only [P_s_l14Make_r98_0_r99_0, B_s_l14Make_r98_0_r99_0, copyUps_eq us h hd, bindO]
  rw [dec_true (by simp; omega), dec_true (by simp; omega)]
  simp only [cond_true]
  have hst : IntKind.i64.wrap (((us ++ [u]).length : Int) - 1) = (us.length : Int) := by
    rw [w64 (by simp only [List.length_append, List.length_singleton]; omega) (by simp only [List.length_append, List.length_singleton]; omega)]
    simp
  rw [hst]
  obtain ⟨z, e, k, hz1, hz2, hz3⟩ := loopO_ind (L_s_l14Make_r98_0_r99_0_0 u) (fun l => l.1.toNat)
    (fun l => ∃ (k : Nat) (c : TUp), l.1 = (k : Int) ∧ k ≤ us.length ∧ l.2.1 = us.take k ++ c :: us.drop k ∧ (upHas us u.1 = false → upIns us u.1 ≤ k))
    (fun z => ∃ k : Nat, k ≤ us.length ∧ (upHas us u.1 = false → k = upIns us u.1) ∧ ∃ c, z = ((k : Int), us.take k ++ c :: us.drop k, ())) (fun l hl => by
      obtain ⟨l1, l2, l3⟩ := l
      obtain ⟨k, c, h1, h2, h3, h4⟩ := hl
      simp only at h1 h3
      subst h1; subst h3
      simp only [L_s_l14Make_r98_0_r99_0_0]
      by_cases hk : k = 0
      · subst hk
        refine .inr ⟨_, by rw [dec_false (by omega)]; rfl, 0, by omega, fun q => ?_, c, rfl⟩
        have := h4 q; omega
      · obtain ⟨k, rfl⟩ : ∃ k', k = k' + 1 := ⟨k - 1, by omega⟩
        have hlen : (us.take (k + 1) ++ c :: us.drop (k + 1)).length = us.length + 1 := by simp; omega
        have ew : IntKind.i64.wrap (((k + 1 : Nat) : Int) - 1) = (k : Int) := by rw [w64 (by omega) (by omega)]; omega
        have hget : rd (.pair .str (.pair (.int .i64) (.pair (.rs 5 (.int .u8)) .bool))) (us.take (k + 1) ++ c :: us.drop (k + 1)) (k : Int) = us[k]'(by omega) := by
          rw [rd_nat (k := .pair .str (.pair (.int .i64) (.pair (.rs 5 (.int .u8)) .bool))) (xs := us.take (k + 1) ++ c :: us.drop (k + 1)) (by rw [hlen]; omega)]
          rw [List.getElem_append_left (by simp; omega), List.getElem_take]
        rw [dec_true (show ((k + 1 : Nat) : Int) > 0 by omega), ew, hlen, dec_true (show (0 : Int) ≤ (k : Int) by omega), dec_true (show (k : Int) < ((us.length + 1 : Nat) : Int) by omega), hget]
        simp only [cond_true]
        have hlen2 : (k : Int) + 1 = ((k + 1 : Nat) : Int) := by omega
        cases hc : (!(Op.bytesLess (us[k]'(by omega)).1.toList u.1.toList || ((us[k]'(by omega)).1.toList == u.1.toList))) with
        | false =>
          refine Or.inr ⟨(((k + 1 : Nat) : Int), us.take (k + 1) ++ c :: us.drop (k + 1), ()), rfl, k + 1, h2, fun q => ?_, c, rfl⟩
          have h5 := h4 q
          by_cases hkp : upIns us u.1 ≤ k
          · have h6 := upIns_gt ho q hkp (by omega)
            simp only [Bool.not_eq_false', Bool.or_eq_true, beq_iff_eq] at hc
            rcases hc with hc | hc
            · rw [bl_asymm h6] at hc; cases hc
            · rw [hc, bl_irrefl] at h6; cases h6
          · omega
        | true =>
          refine Or.inl ⟨((k : Int), us.take k ++ (us[k]'(by omega)) :: us.drop k, ()), ?_, ⟨k, us[k]'(by omega), rfl, by omega, rfl, fun q => ?_⟩, by simp only; omega⟩
          · simp only [cond_true, bindS]
            rw [dec_true (show (0 : Int) ≤ ((k + 1 : Nat) : Int) by omega), dec_true (show ((k + 1 : Nat) : Int) < ((us.length + 1 : Nat) : Int) by omega)]
            simp only [cond_true, bindO, Int.toNat_natCast]
            have e1 : (us.take (k + 1) ++ c :: us.drop (k + 1)).set (k + 1) (us[k]'(by omega)) = us.take k ++ (us[k]'(by omega)) :: us.drop k := by
              rw [List.set_append_right _ _ (by simp; omega)]
              rw [show (us.take (k + 1)).length = k + 1 by simp; omega, Nat.sub_self, List.set_cons_zero, List.take_succ_eq_append_getElem (by omega), List.append_assoc, List.drop_eq_getElem_cons (i := k) (by omega)]
              rfl
            rw [e1]
          · have h5 := h4 q
            by_cases hkp : k < upIns us u.1
            · have h6 := upIns_lo hkp
              rw [h6] at hc
              simp at hc
            · omega) ((us.length : Int), us ++ [u], ()) ⟨us.length, u, rfl, Nat.le_refl _, by simp, fun _ => upIns_le us u.1⟩
  obtain ⟨c, rfl⟩ := hz3
  rw [e]
  simp only
  have hlen : (us.take k ++ c :: us.drop k).length = us.length + 1 := by simp; omega
  rw [dec_true (by omega), dec_true (by rw [hlen]; omega)]
  simp only [cond_true, Int.toNat_natCast]
  refine ⟨k, hz1, ?_, hz2⟩
  rw [List.set_append_right _ _ (by simp; omega), show (us.take k).length = k by simp; omega, Nat.sub_self, List.set_cons_zero]
/-- A record that was read. -/
def RecG (r : TRec) : Prop := recOkB r = true ∧ Byt r.2.2.2.2.2
/-- An upload that a store may have. -/
def UpG (u : TUp) : Prop := (List.length u.2.2.1 : Int) ≤ u.2.1 ∧ u.2.1 ≤ 1000000000 ∧ u.1.size ≤ 8 ∧ Byt u.2.2.1
/-- Uploads that a store may have. -/
def Ups (us : List TUp) : Prop := Ord us ∧ us.length ≤ 10 ∧ ∀ u ∈ us, UpG u
theorem ups_nil : Ups [] := ⟨List.Pairwise.nil, by simp, fun u hu => by cases hu⟩
theorem ups_dat {us : List TUp} (h : Ups us) : ∀ u ∈ us, List.length u.2.2.1 ≤ 2000000000 := fun u hu => by have h1 := (h.2.2 u hu).1; have h2 := (h.2.2 u hu).2.1; omega
/-- What a record makes of uploads. -/
def foldOne (us : List TUp) (r : TRec) : Option (List TUp) :=
  let p := upIns us r.2.2.2.1
  let u := rd kUp us (p : Int)
  if r.2.2.1 = 1 then (if upHas us r.2.2.2.1 = true ∨ 10 ≤ us.length then none else some (us.take p ++ (r.2.2.2.1, r.2.2.2.2.1, [], false) :: us.drop p))
  else if upHas us r.2.2.2.1 = false then none
  else if r.2.2.1 = 2 then (if u.2.2.2 = true ∨ r.2.2.2.2.1 ≠ (List.length u.2.2.1 : Int) ∨ (List.length u.2.2.1 : Int) + (List.length r.2.2.2.2.2 : Int) > u.2.1 then none else some (us.set p (u.1, u.2.1, u.2.2.1 ++ r.2.2.2.2.2, u.2.2.2)))
  else if r.2.2.1 = 3 then (if u.2.2.2 = true ∨ (List.length u.2.2.1 : Int) ≠ u.2.1 then none else some (us.set p (u.1, u.2.1, u.2.2.1, true)))
  else if r.2.2.1 = 4 then some (us.take p ++ us.drop (p + 1))
  else none
def foldI (us : List TUp) (r : TRec) : List TUp × Bool × Unit := match foldOne us r with
  | some us' => (us', true, ())
  | none => ([], false, ())
theorem i_fold_eq (us : List TUp) (r : TRec) (h : Ups us) (h2 : List.length r.2.2.2.2.2 ≤ 1048576) : P_i_fold us r = some (foldI us r) := by
  have hl := h.2.1
  have hp := upIns_le us r.2.2.2.1
  simp only [P_i_fold, B_i_fold, i_upAt_eq us _ (show us.length ≤ maxLen by simp only [maxLen]; omega), bindO, foldI, foldOne]
  by_cases k1 : r.2.2.1 = 1
  · rw [dec_true k1, if_pos k1]
    simp only [cond_true]
    cases hh : upHas us r.2.2.2.1 with
    | true => simp [bindS]
    | false =>
      by_cases h10 : 10 ≤ us.length
      · rw [dec_true (show (us.length : Int) ≥ 10 by omega), if_pos (.inr h10)]
        rfl
      · rw [dec_false (show ¬ (us.length : Int) ≥ 10 by omega), if_neg (by simp; omega)]
        simp only [cond_false, bindS, P_slices_Insert_impl_Up_impl_Up, insFn]
        rw [dec_true (by omega), dec_true (by omega), dec_true (by simp), dec_true (by simp; omega)]
        simp [bindO]
  rw [dec_false k1, if_neg k1]
  simp only [cond_false]
  cases hh : upHas us r.2.2.2.1 with
  | false => simp
  | true =>
    obtain ⟨hlt, hid⟩ := upHas_iff.1 hh
    have hu : (List.length us[upIns us r.2.2.2.1].2.2.1 : Int) ≤ us[upIns us r.2.2.2.1].2.1 ∧ us[upIns us r.2.2.2.1].2.1 ≤ 1000000000 := ⟨(h.2.2 _ (List.getElem_mem hlt)).1, (h.2.2 _ (List.getElem_mem hlt)).2.1⟩
    have hrd : rd kUp us (upIns us r.2.2.2.1 : Int) = us[upIns us r.2.2.2.1] := rd_nat (k := kUp) (xs := us) hlt
    simp only [Bool.not_true, cond_false, Bool.true_eq_false, if_false]
    rw [dec_true (by omega), dec_true (by omega)]
    simp only [cond_true, Int.toNat_natCast, hrd]
    generalize us[upIns us r.2.2.2.1] = u at hu hid ⊢
    by_cases k2 : r.2.2.1 = 2
    · rw [dec_true k2, if_pos k2]
      simp only [cond_true]
      cases hd : u.2.2.2 with
      | true => simp [bindS]
      | false =>
        by_cases hn : r.2.2.2.2.1 = (List.length u.2.2.1 : Int)
        · rw [dec_true hn, w64 (by omega) (by omega)]
          by_cases hw : (List.length u.2.2.1 : Int) + (List.length r.2.2.2.2.2 : Int) > u.2.1
          · rw [dec_true hw, if_pos (.inr (.inr hw))]
            rfl
          · rw [dec_false hw, if_neg (by simp [hn]; omega)]
            simp only [Bool.not_true, cond_false, bindS]
            rw [dec_true (by omega), dec_true (by omega)]
            rfl
        · rw [dec_false hn, if_pos (.inr (.inl hn))]
          rfl
    rw [dec_false k2, if_neg k2]
    by_cases k3 : r.2.2.1 = 3
    · rw [dec_true k3, if_pos k3]
      simp only [cond_true, cond_false]
      cases hd : u.2.2.2 with
      | true => simp
      | false =>
        by_cases hn : (List.length u.2.2.1 : Int) = u.2.1
        · rw [dec_true hn, if_neg (by simp [hn])]
          rfl
        · rw [dec_false hn, if_pos (.inr hn)]
          rfl
    rw [dec_false k3, if_neg k3]
    by_cases k4 : r.2.2.1 = 4
    · rw [dec_true k4, if_pos k4, w64 (n := (upIns us r.2.2.2.1 : Int) + 1) (by omega) (by omega)]
      simp only [cond_true, cond_false, P_slices_Delete_impl_Up_impl_Up, delFn]
      rw [dec_true (by omega), dec_true (by omega), dec_true (by omega)]
      simp only [cond_true, Int.toNat_natCast]
      rw [show ((upIns us r.2.2.2.1 : Int) + 1).toNat = upIns us r.2.2.2.1 + 1 by omega]
    rw [dec_false k4, if_neg k4]
    rfl
theorem s_one_eq (us : List TUp) (r : TRec) (h : Ups us) (h2 : List.length r.2.2.2.2.2 ≤ 1048576) : ∃ x, P_s_l14One_r99_0 us r = some (x, (foldI us r).2.1, ()) ∧ ((foldI us r).2.1 = true → x = (foldI us r).1) := by
  have hl := h.2.1
  have hp := upIns_le us r.2.2.2.1
  have hat := l14At_eq us r.2.2.2.1 (show us.length ≤ maxLen by simp only [maxLen]; omega)
  have hcp := copyUps_eq us (by omega) (ups_dat h)
  obtain ⟨k, hk, hmk, hmk2⟩ := l14Make_eq us (r.2.2.2.1, r.2.2.2.2.1, [], false) h.1 (by omega) (ups_dat h)
  simp only [P_s_l14One_r99_0, B_s_l14One_r99_0, hat, hcp, hmk, bindO, foldI, foldOne]
  by_cases k1 : r.2.2.1 = 1
  · rw [dec_true k1, if_pos k1]
    simp only [cond_true]
    cases hh : upHas us r.2.2.2.1 with
    | true =>
      obtain ⟨hlt, hid⟩ := upHas_iff.1 hh
      rw [upIx_has h.1 hh, if_pos hlt, dec_false (by omega)]
      simp
    | false =>
      have hk2 := hmk2 hh
      simp only at hk2
      rw [upIx_not h.1 hh, if_neg (Nat.lt_irrefl _), dec_true (by omega)]
      simp only [cond_true]
      by_cases h10 : 10 ≤ us.length
      · rw [dec_false (by omega), if_pos (.inr h10)]
        simp
      · rw [dec_true (by omega), if_neg (by simp; omega), hk2]
        simp
  rw [dec_false k1, if_neg k1]
  simp only [cond_false]
  cases hh : upHas us r.2.2.2.1 with
  | false =>
    rw [upIx_not h.1 hh, if_neg (Nat.lt_irrefl _), dec_true (by omega)]
    simp
  | true =>
    obtain ⟨hlt, hid⟩ := upHas_iff.1 hh
    have hu : (List.length us[upIns us r.2.2.2.1].2.2.1 : Int) ≤ us[upIns us r.2.2.2.1].2.1 ∧ us[upIns us r.2.2.2.1].2.1 ≤ 1000000000 := ⟨(h.2.2 _ (List.getElem_mem hlt)).1, (h.2.2 _ (List.getElem_mem hlt)).2.1⟩
    have hrd : rd kUp us (upIns us r.2.2.2.1 : Int) = us[upIns us r.2.2.2.1] := rd_nat (k := kUp) (xs := us) hlt
    rw [upIx_has h.1 hh, if_pos hlt, dec_false (by omega)]
    simp only [cond_false, Bool.true_eq_false, if_false]
    rw [dec_true (by omega), dec_true (by omega)]
    simp only [cond_true, Int.toNat_natCast, hrd]
    generalize us[upIns us r.2.2.2.1] = u at hu hid ⊢
    by_cases k2 : r.2.2.1 = 2
    · rw [dec_true k2, if_pos k2]
      simp only [cond_true]
      cases hd : u.2.2.2 with
      | true => simp [bindS]
      | false =>
        by_cases hn : r.2.2.2.2.1 = (List.length u.2.2.1 : Int)
        · rw [dec_true hn, hn, w64 (by omega) (by omega)]
          by_cases hw : (List.length u.2.2.1 : Int) + (List.length r.2.2.2.2.2 : Int) > u.2.1
          · rw [dec_true hw, if_pos (.inr (.inr hw))]
            exact ⟨_, rfl, fun e => by cases e⟩
          · rw [dec_false hw, if_neg (by simp; omega)]
            simp only [Bool.not_true, cond_false, bindS]
            rw [dec_true (by omega), dec_true (by omega)]
            exact ⟨_, rfl, fun _ => rfl⟩
        · rw [dec_false hn, if_pos (.inr (.inl hn))]
          exact ⟨_, rfl, fun e => by cases e⟩
    rw [dec_false k2, if_neg k2]
    by_cases k3 : r.2.2.1 = 3
    · rw [dec_true k3, if_pos k3]
      simp only [cond_true, cond_false]
      cases hd : u.2.2.2 with
      | true => simp
      | false =>
        by_cases hn : (List.length u.2.2.1 : Int) = u.2.1
        · rw [dec_true hn, if_neg (by simp [hn])]
          exact ⟨_, rfl, fun _ => rfl⟩
        · rw [dec_false hn, if_pos (.inr hn)]
          exact ⟨_, rfl, fun e => by cases e⟩
    rw [dec_false k3, if_neg k3]
    by_cases k4 : r.2.2.1 = 4
    · rw [dec_true k4, if_pos k4, w64 (n := (upIns us r.2.2.2.1 : Int) + 1) (by omega) (by omega)]
      simp only [cond_true, cond_false]
      rw [dec_true (by omega), dec_true (by omega), dec_true (by omega), dec_true (by omega)]
      simp only [cond_true]
      rw [show ((upIns us r.2.2.2.1 : Int) + 1).toNat = upIns us r.2.2.2.1 + 1 by omega, dec_true (by omega)]
      simp only [cond_true, List.take_length]
      exact ⟨_, rfl, fun _ => rfl⟩
    rw [dec_false k4, if_neg k4]
    exact ⟨_, rfl, fun e => by cases e⟩
theorem ord_set {us : List TUp} (h : Ord us) (p : Nat) (hp : p < us.length) (u : TUp) (hu : u.1 = us[p].1) : Ord (us.set p u) := by
  refine List.pairwise_iff_getElem.2 fun i j hi hj hij => ?_
  simp only [List.length_set] at hi hj
  have hk : ∀ q (hq : q < us.length), ((us.set p u)[q]'(by simpa using hq)).1 = us[q].1 := fun q hq => by
    rw [List.getElem_set]
    split
    · rename_i e; subst e; exact hu
    · rfl
  rw [hk i hi, hk j hj]
  exact ord_at h hij hj
theorem foldOne_ups {us us' : List TUp} {r : TRec} (h : Ups us) (hr' : RecG r) (e : foldOne us r = some us') : Ups us' := by
  have hr := hr'.1
  have hp := upIns_le us r.2.2.2.1
  have hb := recOk_bnd hr
  simp only [foldOne] at e
  split at e
  · split at e
    · cases e
    rename_i hc
    injection e with e
    subst e
    have hnh : upHas us r.2.2.2.1 = false := by cases q : upHas us r.2.2.2.1; rfl; exact absurd (.inl q) hc
    refine ⟨?_, by simp; omega, fun u hu => ?_⟩
    · show List.Pairwise _ _
      rw [List.pairwise_append]
      refine ⟨h.1.sublist (List.take_sublist _ _), List.pairwise_cons.2 ⟨fun b hb => ?_, h.1.sublist (List.drop_sublist _ _)⟩, fun a ha b hb => ?_⟩
      · obtain ⟨j, hj, rfl⟩ := List.getElem_of_mem hb
        rw [List.getElem_drop]
        exact upIns_gt h.1 hnh (by omega) _
      · obtain ⟨j, hj, rfl⟩ := List.getElem_of_mem ha
        rw [List.length_take] at hj
        rw [List.getElem_take]
        have h1 := upIns_lo (us := us) (id := r.2.2.2.1) (j := j) (by omega)
        rcases List.mem_cons.1 hb with rfl | hb
        · exact h1
        · obtain ⟨q, hq, rfl⟩ := List.getElem_of_mem hb
          rw [List.getElem_drop]
          rw [List.length_drop] at hq
          exact bl_trans h1 (upIns_gt h.1 hnh (by omega) (by omega))
    · rcases List.mem_append.1 hu with hu | hu
      · exact h.2.2 u (List.mem_of_mem_take hu)
      · rcases List.mem_cons.1 hu with rfl | hu
        · exact ⟨by simp only [List.length_nil]; omega, by simp only; omega, hb.2.2.2.2.1, byt_nil⟩
        · exact h.2.2 u (List.mem_of_mem_drop hu)
  split at e
  · cases e
  rename_i _ hh
  have hh : upHas us r.2.2.2.1 = true := by cases q : upHas us r.2.2.2.1; exact absurd q hh; rfl
  obtain ⟨hlt, hid⟩ := upHas_iff.1 hh
  have hrd : rd kUp us (upIns us r.2.2.2.1 : Int) = us[upIns us r.2.2.2.1] := rd_nat (k := kUp) (xs := us) hlt
  have hu0 := h.2.2 _ (List.getElem_mem hlt)
  simp only [hrd] at e
  split at e
  · split at e
    · cases e
    rename_i hc
    injection e with e
    subst e
    refine ⟨ord_set h.1 _ hlt _ rfl, by simp; exact h.2.1, fun u hu => ?_⟩
    rcases List.mem_or_eq_of_mem_set hu with hu | rfl
    · exact h.2.2 u hu
    · refine ⟨?_, hu0.2.1, hu0.2.2.1, byt_app hu0.2.2.2 hr'.2⟩
      simp only [List.length_append]
      have : ¬ ((List.length us[upIns us r.2.2.2.1].2.2.1 : Int) + (List.length r.2.2.2.2.2 : Int) > us[upIns us r.2.2.2.1].2.1) := fun q => hc (.inr (.inr q))
      omega
  split at e
  · split at e
    · cases e
    injection e with e
    subst e
    refine ⟨ord_set h.1 _ hlt _ rfl, by simp; exact h.2.1, fun u hu => ?_⟩
    rcases List.mem_or_eq_of_mem_set hu with hu | rfl
    · exact h.2.2 u hu
    · exact hu0
  split at e
  · injection e with e
    subst e
    refine ⟨?_, by have := h.2.1; simp only [List.length_append, List.length_take, List.length_drop]; omega, fun u hu => ?_⟩
    · show List.Pairwise _ _
      rw [List.pairwise_append]
      refine ⟨h.1.sublist (List.take_sublist _ _), h.1.sublist (List.drop_sublist _ _), fun a ha b hb => ?_⟩
      obtain ⟨j, hj, rfl⟩ := List.getElem_of_mem ha
      obtain ⟨q, hq, rfl⟩ := List.getElem_of_mem hb
      rw [List.length_take] at hj
      rw [List.length_drop] at hq
      rw [List.getElem_take, List.getElem_drop]
      exact ord_at h.1 (by omega) (by omega)
    · rcases List.mem_append.1 hu with hu | hu
      · exact h.2.2 u (List.mem_of_mem_take hu)
      · exact h.2.2 u (List.mem_of_mem_drop hu)
  · cases e
/-- What records make. -/
def foldAll : List TUp → List TRec → Option (List TUp)
  | us, [] => some us
  | us, r :: l => match foldOne us r with
    | some us' => foldAll us' l
    | none => none
def foldRecs (l : List TRec) : List TUp × Bool × Unit := match foldAll [] l with
  | some us => (us, true, ())
  | none => ([], false, ())
theorem foldAll_ups : ∀ {l : List TRec} {us us' : List TUp}, Ups us → (∀ r ∈ l, RecG r) → foldAll us l = some us' → Ups us'
  | [], us, us', h, _, e => by simp only [foldAll, Option.some.injEq] at e; subst e; exact h
  | r :: l, us, us', h, hr, e => by
    simp only [foldAll] at e
    split at e
    · rename_i us1 e1
      exact foldAll_ups (foldOne_ups h (hr r (by simp)) e1) (fun x hx => hr x (by simp [hx])) e
    · cases e
theorem fold_loop {α : Type} (f : α → Option (α ⊕ ((List TUp × Unit) ⊕ (List TUp × Bool × Unit)))) (s : Nat → List TUp → α) (l : List TRec) (hr : ∀ r ∈ l, RecG r)
    (hs : ∀ (i : Nat) (hi : i < l.length) (us : List TUp), Ups us → f (s i us) = match foldOne us l[i] with
      | some us' => some (.inl (s (i + 1) us'))
      | none => some (.inr (.inr ([], false, ()))))
    (he : ∀ us, f (s l.length us) = some (.inr (.inl (us, ())))) : bindS (loopO f (s 0 [])) (fun m => some (m.1, true, ())) = some (foldRecs l) := by
  have key : ∀ k i us, i + k = l.length → Ups us → bindS (loopO f (s i us)) (fun m => some (m.1, true, ())) = some (match foldAll us (l.drop i) with
      | some us' => (us', true, ())
      | none => ([], false, ())) := by
    intro k
    induction k with
    | zero =>
      intro i us hi hu
      obtain rfl : i = l.length := by omega
      rw [loopO_eq, he]
      simp [foldAll, bindS]
    | succ k ih =>
      intro i us hi hu
      have hlt : i < l.length := by omega
      rw [loopO_eq, hs i hlt us hu, List.drop_eq_getElem_cons hlt]
      simp only [foldAll]
      cases e : foldOne us l[i] with
      | none => rfl
      | some us' => exact ih (i + 1) us' (by omega) (foldOne_ups hu (hr _ (List.getElem_mem hlt)) e)
  exact key l.length 0 [] (by omega) ups_nil
theorem i_FoldRecs_eq (l : List TRec) (hl : l.length ≤ maxLen) (hr : ∀ r ∈ l, RecG r) : P_i_FoldRecs l = some (foldRecs l) := by
  simp only [P_i_FoldRecs, B_i_FoldRecs]
  refine fold_loop (L_i_FoldRecs_0 P_i_fold l) (fun i us => ((i : Int), us, ())) l hr (fun i hi us hu => ?_) (fun us => by simp [L_i_FoldRecs_0])
  have h1 : ((i : Int) < (l.length : Int)) := by omega
  have h2 : (0 : Int) ≤ (i : Int) := by omega
  have hb := recOk_bnd (hr _ (List.getElem_mem hi)).1
  simp only [L_i_FoldRecs_0, dec_true h1, dec_true h2, cond_true]
  rw [rd_nat (k := kRec) (xs := l) hi, i_fold_eq us _ hu (by omega), w64 (by omega) (by simp only [maxLen] at hl; omega)]
  simp only [bindO, foldI]
  cases foldOne us l[i] <;> rfl
theorem s_FoldRecs_eq (l : List TRec) (hl : l.length ≤ maxLen) (hr : ∀ r ∈ l, RecG r) : P_s_FoldRecs_r99_0 l = some (foldRecs l) := by
  simp only [P_s_FoldRecs_r99_0, B_s_FoldRecs_r99_0]
  refine fold_loop (L_s_FoldRecs_r99_0_0 P_s_l14One_r99_0 l) (fun i us => (us, (i : Int), ())) l hr (fun i hi us hu => ?_) (fun us => by simp [L_s_FoldRecs_r99_0_0])
  have h1 : ((i : Int) < (l.length : Int)) := by omega
  have h2 : (0 : Int) ≤ (i : Int) := by omega
  have hb := recOk_bnd (hr _ (List.getElem_mem hi)).1
  obtain ⟨x, hx, hx2⟩ := s_one_eq us l[i] hu (by omega)
  simp only [L_s_FoldRecs_r99_0_0, dec_true h1, dec_true h2, cond_true]
  rw [rd_nat (k := kRec) (xs := l) hi, hx, w64 (by omega) (by simp only [maxLen] at hl; omega)]
  simp only [bindO, foldI] at hx2 ⊢
  cases e : foldOne us l[i] with
  | none => rfl
  | some us' =>
    rw [e] at hx2
    rw [hx2 rfl]
    rfl

/-- Sectors that are not too many nor too long. -/
def Secs (l : List ByteArray) : Prop := l.length ≤ 1048576 ∧ ∀ s ∈ l, s.size ≤ 1048576
theorem secs_at {l : List ByteArray} (h : Secs l) {i : Nat} (hi : i < l.length) : (rd .str l (i : Int)).size ≤ 1048576 := by
  rw [rd_str hi]
  exact h.2 _ (List.getElem_mem hi)
theorem getRec_good {s : ByteArray} (h : (getRec s).2.1 = true) : RecG (getRec s).1 := by
  unfold getRec at h ⊢
  split at h
  · rename_i hg
    rw [if_pos hg]
    simp only [recGood, Bool.and_eq_true] at hg
    exact ⟨hg.1.2, recAt_byt (byt_bytesOf s)⟩
  · cases h
theorem scan_step (d : TDisk) (h : Secs d.1) (l : Int × Int × List TRec × Unit) (h0 : 0 ≤ l.2.1) : L_i_ScanRecs_0 P_i_GetRec d l = L_s_ScanRecs_0 P_s_GetRec d l := by
  simp only [L_i_ScanRecs_0, L_s_ScanRecs_0]
  by_cases hi : l.2.1 < (d.1.length : Int)
  · obtain ⟨i, hn⟩ : ∃ i : Nat, l.2.1 = (i : Int) := ⟨l.2.1.toNat, by omega⟩
    rw [hn] at hi ⊢
    rw [s_GetRec_eq _ (secs_at h (by omega)), i_GetRec_eq _ (secs_at h (by omega))]
  · rw [dec_false hi]
    rfl
theorem scan_ok (d : TDisk) (h : Secs d.1) : ∃ l, P_s_ScanRecs d = some (l, ()) ∧ P_i_ScanRecs d = some (l, ()) ∧ l.length ≤ d.1.length ∧ ∀ r ∈ l, RecG r := by
  have hl := h.1
  obtain ⟨z, e, hz1, hz2⟩ := loopO_ind (L_s_ScanRecs_0 P_s_GetRec d) (fun l => ((d.1.length : Int) - l.2.1).toNat) (fun l => 0 ≤ l.2.1 ∧ (List.length l.2.2.1 : Int) = l.2.1 ∧ l.2.1 ≤ (d.1.length : Int) ∧ ∀ r ∈ l.2.2.1, RecG r)
    (fun z => List.length z.1 ≤ d.1.length ∧ ∀ r ∈ z.1, RecG r) (fun l hl => by
      obtain ⟨h0, h1, h2, h3⟩ := hl
      simp only [L_s_ScanRecs_0]
      by_cases hi : l.2.1 < (d.1.length : Int)
      · obtain ⟨i, hn⟩ : ∃ i : Nat, l.2.1 = (i : Int) := ⟨l.2.1.toNat, by omega⟩
        rw [dec_true hi, dec_true h0]
        simp only [cond_true]
        rw [hn] at hi h0 h1 h2 ⊢
        rw [s_GetRec_eq _ (secs_at h (by omega))]
        simp only [bindO]
        have hg := @getRec_good (rd .str d.1 (i : Int))
        generalize getRec (rd .str d.1 (i : Int)) = g at hg ⊢
        have fin : List.length l.2.2.1 ≤ d.1.length ∧ ∀ r ∈ l.2.2.1, RecG r := ⟨by omega, h3⟩
        cases hk : g.2.1 with
        | false => exact .inr ⟨_, rfl, fin⟩
        | true =>
          simp only [Bool.not_true, cond_false]
          by_cases e1 : g.1.2.1 = (i : Int)
          · rw [dec_true e1]
            by_cases e2 : g.1.1 < l.1
            · rw [dec_true e2]; exact .inr ⟨_, rfl, fin⟩
            · rw [dec_false e2]
              simp only [Bool.not_true, cond_false]
              rw [dec_true (by simp; omega), dec_true (by simp; omega), w64 (by omega) (by omega)]
              refine .inl ⟨_, rfl, ⟨by simp only; omega, by simp; omega, by simp only; omega, fun r hr => ?_⟩, by simp only; omega⟩
              rcases List.mem_append.1 hr with hr | hr
              · exact h3 r hr
              · rw [List.mem_singleton.1 hr]; exact hg hk
          · rw [dec_false e1]; exact .inr ⟨_, rfl, fin⟩
      · rw [dec_false hi]
        exact .inr ⟨_, rfl, by simp only; omega, h3⟩) (0, 0, [], ()) ⟨by simp, by simp, by simp, fun r hr => by cases hr⟩
  refine ⟨z.1, e, ?_, hz1, hz2⟩
  simp only [P_i_ScanRecs, B_i_ScanRecs]
  rw [loopO_congr (g := L_s_ScanRecs_0 P_s_GetRec d) (fun l => 0 ≤ l.2.1) (fun l h0 => scan_step d h l h0) (fun l y h0 e => ?_) (by simp)]
  · exact e
  · simp only [L_i_ScanRecs_0] at e
    by_cases hi : l.2.1 < (d.1.length : Int)
    · obtain ⟨i, hn⟩ : ∃ i : Nat, l.2.1 = (i : Int) := ⟨l.2.1.toNat, by omega⟩
      rw [dec_true hi, dec_true h0] at e
      simp only [cond_true] at e
      rw [hn] at hi h0 e
      rw [i_GetRec_eq _ (secs_at h (by omega))] at e
      simp only [bindO] at e
      rw [w64 (n := (i : Int) + 1) (by omega) (by omega)] at e
      generalize getRec (rd .str d.1 (i : Int)) = g at e
      cases hk : g.2.1 <;> simp only [hk, Bool.not_true, Bool.not_false, cond_true, cond_false] at e
      · cases e
      · revert e
        cases decide (g.1.2.1 = (i : Int)) <;> cases decide (g.1.1 < l.1) <;> simp only [Bool.not_true, Bool.not_false, cond_true, cond_false]
        · intro e; cases e
        · intro e; cases e
        · cases decide (List.length l.2.2.1 + List.length [g.1] ≤ 9223372036854775807) <;> cases decide ((List.length l.2.2.1 + List.length [g.1]) * 72 ≤ 140737488355328) <;> intro e
          · cases e
          · cases e
          · cases e
          · simp only [cond_true] at e
            injection e with e; injection e with e; subst e
            simp only; omega
        · intro e; cases e
    · rw [dec_false hi] at e
      cases e
theorem diskOk_eq : P_i_DiskOk = P_s_DiskOk := rfl
theorem s_DiskOk_ok (d : TDisk) (h : d.1.length ≤ 1048576) : ∃ b, P_s_DiskOk d = some (b, ()) ∧ (b = true → d.1.length = d.2.length ∧ d.1.length ≤ 200) := by
  simp only [P_s_DiskOk, B_s_DiskOk]
  by_cases h1 : (d.1.length : Int) = (d.2.length : Int)
  · rw [dec_true h1]
    by_cases h2 : (d.1.length : Int) > 200
    · rw [dec_true h2]
      exact ⟨_, rfl, fun e => by cases e⟩
    · rw [dec_false h2]
      simp only [Bool.not_true, cond_false, bindS]
      refine ⟨_, loopB (L_s_DiskOk_0 d) d.1.length (by simp only [maxLen]; omega) (fun i => !decide (((rd .str d.1 (i : Int)).size : Int) > 64) && !decide (((rd .str d.2 (i : Int)).size : Int) > 64)) (fun i hi => ?_) (by simp [L_s_DiskOk_0]), fun _ => by omega⟩
      have g1 : ((i : Int) < (d.1.length : Int)) := by omega
      have g2 : (0 : Int) ≤ (i : Int) := by omega
      have g3 : ((i : Int) < (d.2.length : Int)) := by omega
      simp only [L_s_DiskOk_0, dec_true g1, dec_true g2, dec_true g3, cond_true]
      cases decide (((rd .str d.1 (i : Int)).size : Int) > 64) <;> cases decide (((rd .str d.2 (i : Int)).size : Int) > 64) <;> rfl
  · rw [dec_false h1]
    exact ⟨_, rfl, fun e => by cases e⟩
/-- Two uploads that are the same. -/
def sameUpB (a b : TUp) : Bool := (a.1.toList == b.1.toList) && decide (a.2.1 = b.2.1) && (a.2.2.2 == b.2.2.2) && ((strOf a.2.2.1).toList == (strOf b.2.2.1).toList)
def sameUpsB (a b : List TUp) : Bool := decide (a.length = b.length) && (List.range a.length).all fun i => sameUpB (rd kUp a (i : Int)) (rd kUp b (i : Int))
theorem i_sameUp_eq (a b : TUp) : P_i_sameUp a b = some (sameUpB a b, ()) := by
  simp only [P_i_sameUp, B_i_sameUp, P_bytes_Equal, B_bytes_Equal, bindO, sameUpB]
  cases (a.1.toList == b.1.toList) <;> cases decide (a.2.1 = b.2.1) <;> cases (a.2.2.2 == b.2.2.2) <;> rfl
theorem i_same_eq (a b : List TUp) (h : a.length ≤ maxLen) : P_slices_EqualFunc_impl_Up_impl_Up_impl_Up_impl_Up_r1002_173 a b () = some (sameUpsB a b, ()) := by
  simp only [P_slices_EqualFunc_impl_Up_impl_Up_impl_Up_impl_Up_r1002_173, B_slices_EqualFunc_impl_Up_impl_Up_impl_Up_impl_Up_r1002_173, sameUpsB]
  by_cases hl : a.length = b.length
  · rw [dec_true (show (a.length : Int) = (b.length : Int) by omega), dec_true hl]
    simp only [Bool.not_true, cond_false, Bool.true_and]
    refine loopB _ a.length h (fun i => sameUpB (rd kUp a (i : Int)) (rd kUp b (i : Int))) (fun i hi => ?_) (by simp [L_slices_EqualFunc_impl_Up_impl_Up_impl_Up_impl_Up_r1002_173_0])
    have g1 : ((i : Int) < (a.length : Int)) := by omega
    have g2 : (0 : Int) ≤ (i : Int) := by omega
    have g3 : ((i : Int) < (b.length : Int)) := by omega
    simp only [L_slices_EqualFunc_impl_Up_impl_Up_impl_Up_impl_Up_r1002_173_0, dec_true g1, dec_true g2, dec_true g3, cond_true, i_sameUp_eq, bindO]
    cases sameUpB (rd kUp a (i : Int)) (rd kUp b (i : Int)) <;> rfl
  · rw [dec_false (show ¬ (a.length : Int) = (b.length : Int) by omega), dec_false hl]
    rfl
theorem s_same_eq (a b : List TUp) (h : a.length ≤ maxLen) : P_s_l14SameUps a b = some (sameUpsB a b, ()) := by
  simp only [P_s_l14SameUps, B_s_l14SameUps, sameUpsB]
  by_cases hl : a.length = b.length
  · rw [dec_true (show (a.length : Int) = (b.length : Int) by omega), dec_true hl]
    simp only [Bool.not_true, cond_false, Bool.true_and]
    refine loopB _ a.length h (fun i => sameUpB (rd kUp a (i : Int)) (rd kUp b (i : Int))) (fun i hi => ?_) (by simp [L_s_l14SameUps_0])
    have g1 : ((i : Int) < (a.length : Int)) := by omega
    have g2 : (0 : Int) ≤ (i : Int) := by omega
    have g3 : ((i : Int) < (b.length : Int)) := by omega
    simp only [L_s_l14SameUps_0, dec_true g1, dec_true g2, dec_true g3, cond_true, sameUpB]
    cases ((rd kUp a (i : Int)).1.toList == (rd kUp b (i : Int)).1.toList) <;> cases decide ((rd kUp a (i : Int)).2.1 = (rd kUp b (i : Int)).2.1) <;> cases ((rd kUp a (i : Int)).2.2.2 == (rd kUp b (i : Int)).2.2.2) <;> cases ((strOf (rd kUp a (i : Int)).2.2.1).toList == (strOf (rd kUp b (i : Int)).2.2.1).toList) <;> rfl
  · rw [dec_false (show ¬ (a.length : Int) = (b.length : Int) by omega), dec_false hl]
    rfl
/-- A sector with a record that is not older than e. -/
def newer (e : Int) (s : ByteArray) : Bool := (getRec s).2.1 && decide ((getRec s).1.1 ≥ e)
def topOf (t : Int) (s : ByteArray) : Int := bif (getRec s).2.1 then (bif decide ((getRec s).1.1 > t) then (getRec s).1.1 else t) else t
def topL (l : List ByteArray) : Int := l.foldl topOf (-1)
theorem foldl_top (e : Int) : ∀ (l : List ByteArray) (t : Int), decide (l.foldl topOf t < e) = (decide (t < e) && l.all fun s => !newer e s)
  | [], t => (Bool.and_true _).symm
  | s :: l, t => by
    rw [List.foldl_cons, foldl_top e l, List.all_cons]
    unfold topOf newer
    cases (getRec s).2.1 with
    | false => simp
    | true =>
      simp only [cond_true, Bool.true_and]
      by_cases h1 : (getRec s).1.1 > t
      · rw [dec_true h1]
        by_cases h2 : (getRec s).1.1 ≥ e
        · rw [dec_true h2]
          simp only [cond_true]
          rw [dec_false (show ¬ (getRec s).1.1 < e by omega)]
          simp
        · rw [dec_false h2]
          simp only [cond_true]
          rw [dec_true (show (getRec s).1.1 < e by omega), dec_true (show t < e by omega)]
          simp
      · rw [dec_false h1]
        simp only [cond_false]
        by_cases h3 : t < e
        · rw [dec_true h3, dec_false (show ¬ (getRec s).1.1 ≥ e by omega)]
          simp
        · rw [dec_false h3]
          simp
theorem i_topFrom_eq (l : List ByteArray) (h : Secs l) : P_i_topFrom l = some (topL l, ()) := by
  have hl := h.1
  simp only [P_i_topFrom, B_i_topFrom]
  have key := loopO_count (L_i_topFrom_0 P_i_GetRec l) (fun i => ((l.take i).foldl topOf (-1), (i : Int), ())) l.length (topL l, ()) (fun i hi => ?_) ?_
  · simpa using key
  · have g1 : ((i : Int) < (l.length : Int)) := by omega
    have g2 : (0 : Int) ≤ (i : Int) := by omega
    simp only [L_i_topFrom_0, dec_true g1, dec_true g2, cond_true]
    rw [i_GetRec_eq _ (secs_at h hi), w64 (by omega) (by omega)]
    simp only [bindO]
    have e : (l.take (i + 1)).foldl topOf (-1) = topOf ((l.take i).foldl topOf (-1)) (rd .str l (i : Int)) := by
      rw [List.take_succ_eq_append_getElem hi, List.foldl_append, rd_str hi]
      rfl
    rw [e]
    unfold topOf
    cases (getRec (rd .str l (i : Int))).2.1 <;> rfl
  · simp [L_i_topFrom_0, topL]
theorem firstN_all (go : Nat → Bool) (n : Nat) : decide (firstN go 0 n = n) = (List.range n).all go := by
  rw [Bool.eq_iff_iff]
  simp only [decide_eq_true_eq, List.all_eq_true, List.mem_range]
  constructor
  · intro h j hj
    exact firstN_goes go n 0 j (by omega) (by omega)
  · intro h
    exact firstN_uniq go n n (Nat.le_refl _) h (fun h => by omega)
theorem s_tail_eq (st : TStore) (h : Secs st.1.1) (n : Nat) (hn : n ≤ st.1.1.length) : loopO (L_s_StoreOk_0 P_s_GetRec st) ((n : Int), ()) = some ((st.1.1.drop n).all fun s => !newer st.2.1 s, ()) := by
  have hl := h.1
  have key := loopO_first (L_s_StoreOk_0 P_s_GetRec st) (fun j => (((n + j : Nat) : Int), ())) (st.1.1.length - n) (fun j => (decide (j = st.1.1.length - n), ())) (fun j => !newer st.2.1 (rd .str st.1.1 ((n + j : Nat) : Int))) (fun j hj => ?_) ?_
  · have e : loopO (L_s_StoreOk_0 P_s_GetRec st) ((n : Int), ()) = _ := key
    rw [e, firstN_all]
    congr 2
    rw [Bool.eq_iff_iff]
    simp only [List.all_eq_true, List.mem_range]
    constructor
    · intro h2 s hs
      obtain ⟨j, hj, rfl⟩ := List.getElem_of_mem hs
      rw [List.length_drop] at hj
      have := h2 j hj
      rw [rd_str (by omega)] at this
      rw [List.getElem_drop]
      exact this
    · intro h2 j hj
      rw [rd_str (by omega)]
      refine h2 _ ?_
      rw [List.mem_iff_getElem]
      exact ⟨j, by rw [List.length_drop]; omega, by rw [List.getElem_drop]⟩
  · have g1 : (((n + j : Nat) : Int) < (st.1.1.length : Int)) := by omega
    have g2 : (0 : Int) ≤ ((n + j : Nat) : Int) := by omega
    simp only [L_s_StoreOk_0, dec_true g1, dec_true g2, cond_true]
    rw [s_GetRec_eq _ (secs_at h (by omega)), w64 (by omega) (by omega)]
    simp only [bindO, newer]
    rw [dec_false (show ¬ j = st.1.1.length - n by omega)]
    have e2 : n + (j + 1) = (n + j) + 1 := by omega
    simp only [e2, Int.natCast_succ]
    cases (getRec (rd .str st.1.1 ((n + j : Nat) : Int))).2.1 <;> cases decide ((getRec (rd .str st.1.1 ((n + j : Nat) : Int))).1.1 ≥ st.2.1) <;> rfl
  · have g1 : ¬ (((n + (st.1.1.length - n) : Nat) : Int) < (st.1.1.length : Int)) := by omega
    simp only [L_s_StoreOk_0, dec_false g1, cond_false]
    simp
/-- What is known of a store that is right. -/
def StoreG (st : TStore) : Prop := 0 ≤ st.2.1 ∧ st.2.1 ≤ 10000 ∧ st.1.1.length = st.1.2.length ∧ st.1.1.length ≤ 200 ∧ (0 ≤ st.2.2.1 ∧ st.2.2.1 ≤ (st.1.1.length : Int)) ∧ ∃ us, Ups us ∧ sameUpsB us st.2.2.2 = true
theorem storeOk_eq (st : TStore) (h : Secs st.1.1) : ∃ b, P_s_StoreOk st = some (b, ()) ∧ P_i_StoreOk st = some (b, ()) ∧ (b = true → StoreG st) := by
  have hl := h.1
  obtain ⟨bd, hd, hdt⟩ := s_DiskOk_ok st.1 hl
  obtain ⟨l, hs, hi, hll, hrg⟩ := scan_ok st.1 h
  have hfs := s_FoldRecs_eq l (by simp only [maxLen]; omega) hrg
  have hfi := i_FoldRecs_eq l (by simp only [maxLen]; omega) hrg
  have hups : (foldRecs l).2.1 = true → Ups (foldRecs l).1 := by
    intro e
    unfold foldRecs at e ⊢
    split
    · rename_i us' e1
      exact foldAll_ups ups_nil hrg e1
    · rename_i e1
      rw [e1] at e; cases e
  simp only [P_s_StoreOk, B_s_StoreOk, P_i_StoreOk, B_i_StoreOk, diskOk_eq, hd, hs, hi, hfs, hfi, P_i_isEpoch, B_i_isEpoch, l1In_eq, inRange_eq, bindO]
  cases bd with
  | false =>
    by_cases he : 0 ≤ st.2.1 ∧ st.2.1 ≤ 10000
    · rw [dec_true he]
      exact ⟨_, rfl, rfl, fun e => by cases e⟩
    · rw [dec_false he]
      exact ⟨_, rfl, rfl, fun e => by cases e⟩
  | true =>
    cases he' : decide (0 ≤ st.2.1 ∧ st.2.1 ≤ 10000) with
    | false => exact ⟨_, rfl, rfl, fun e => by cases e⟩
    | true =>
      have he := of_decide_eq_true he'
      have hd2 := hdt rfl
      simp only [Bool.not_true, cond_false, bindS]
      generalize hf : foldRecs l = fr at hups
      cases hk : fr.2.1 with
      | false => exact ⟨_, rfl, rfl, fun e => by cases e⟩
      | true =>
        have hu := hups hk
        have hul := hu.2.1
        rw [s_same_eq _ _ (show fr.1.length ≤ maxLen by simp only [maxLen]; omega), i_same_eq _ _ (show fr.1.length ≤ maxLen by simp only [maxLen]; omega)]
        simp only [Bool.not_true, cond_false]
        cases hn' : decide (st.2.2.1 = (List.length l : Int)) with
        | false =>
          cases sameUpsB fr.1 st.2.2.2 <;> exact ⟨_, rfl, rfl, fun e => by cases e⟩
        | true =>
          have hn := of_decide_eq_true hn'
          cases hsm : sameUpsB fr.1 st.2.2.2 with
          | false => exact ⟨_, rfl, rfl, fun e => by cases e⟩
          | true =>
            have hg : StoreG st := ⟨he.1, he.2, hd2.1, hd2.2, by omega, fr.1, hu, hsm⟩
            simp only [Bool.not_true, cond_false]
            rw [hn, s_tail_eq st h l.length hll, dec_true (show (0 : Int) ≤ (List.length l : Int) by omega), dec_true (show (List.length l : Int) ≤ (st.1.1.length : Int) by omega), Int.toNat_natCast, List.take_length]
            simp only [cond_true]
            have hdr : Secs (st.1.1.drop l.length) := ⟨by rw [List.length_drop]; omega, fun s hs => h.2 s (List.mem_of_mem_drop hs)⟩
            rw [i_topFrom_eq _ hdr]
            have htop : decide (st.2.1 > topL (st.1.1.drop l.length)) = ((st.1.1.drop l.length).all fun s => !newer st.2.1 s) := by
              have := foldl_top st.2.1 (st.1.1.drop l.length) (-1)
              rw [dec_true (show (-1 : Int) < st.2.1 by omega), Bool.true_and] at this
              exact this
            simp only [htop]
            by_cases hl0 : (List.length l : Int) > 0
            · rw [dec_true hl0, w64 (n := (List.length l : Int) - 1) (by omega) (by omega), dec_true (show (0 : Int) ≤ (List.length l : Int) - 1 by omega), dec_true (show (List.length l : Int) - 1 < (List.length l : Int) by omega)]
              simp only [cond_true]
              have hlt : decide (st.2.1 < (rd kRec l ((List.length l : Int) - 1)).1) = decide ((rd kRec l ((List.length l : Int) - 1)).1 > st.2.1) := rfl
              rw [hlt]
              cases decide ((rd kRec l ((List.length l : Int) - 1)).1 > st.2.1) with
              | true => exact ⟨_, rfl, rfl, fun e => by cases e⟩
              | false => exact ⟨_, rfl, rfl, fun _ => hg⟩
            · rw [dec_false hl0]
              exact ⟨_, rfl, rfl, fun _ => hg⟩
theorem i_held_step (x : TServer) : L_i_ServerOk_0 P_i_RespOk x = L_s_ServerOk_0 P_s_RespOk x := by
  have e : P_i_RespOk = P_s_RespOk := by funext r; rw [i_RespOk_eq, s_RespOk_eq]
  rw [e]
  rfl
theorem held_ok (x : TServer) (h : x.2.length ≤ 1048576) : ∃ z, loopO (L_s_ServerOk_0 P_s_RespOk x) (0, ()) = some z ∧ (z = .inl () ∨ z = .inr (false, ())) := by
  have key := loopO_first (L_s_ServerOk_0 P_s_RespOk x) (fun i => ((i : Int), ())) x.2.length (fun i => if i < x.2.length then .inr (false, ()) else .inl ()) (fun i => respOkB (rd kHeld x.2 (i : Int)).2) (fun i hi => ?_) ?_
  · refine ⟨_, key, ?_⟩
    split
    · exact .inr rfl
    · exact .inl rfl
  · have g1 : ((i : Int) < (x.2.length : Int)) := by omega
    have g2 : (0 : Int) ≤ (i : Int) := by omega
    simp only [L_s_ServerOk_0, dec_true g1, dec_true g2, cond_true, s_RespOk_eq, bindO, if_pos hi]
    rw [w64 (by omega) (by omega)]
    cases respOkB (rd kHeld x.2 (i : Int)).2 <;> rfl
  · simp [L_s_ServerOk_0]
theorem serverOk_eq (x : TServer) (h : Secs x.1.1.1) (h2 : x.2.length ≤ 1048576) : ∃ b, P_s_ServerOk x = some (b, ()) ∧ P_i_ServerOk x = some (b, ()) ∧ (b = true → P_s_StoreOk x.1 = some (true, ()) ∧ StoreG x.1 ∧ x.2.length ≤ 200) := by
  obtain ⟨z, hz, hz2⟩ := held_ok x h2
  obtain ⟨b, hs, hi, hg⟩ := storeOk_eq x.1 h
  simp only [P_s_ServerOk, B_s_ServerOk, P_i_ServerOk, B_i_ServerOk, i_held_step, hz, hs, hi]
  rcases hz2 with rfl | rfl
  · by_cases hl : (x.2.length : Int) ≤ 200
    · rw [dec_true hl]
      exact ⟨b, rfl, rfl, fun e => ⟨by rw [e], hg e, by omega⟩⟩
    · rw [dec_false hl]
      exact ⟨_, rfl, rfl, fun e => by cases e⟩
  · exact ⟨_, rfl, rfl, fun e => by cases e⟩

theorem rd_set {k : K} {b : List k.T} {i : Nat} (h : i < b.length) (u : k.T) : rd k (b.set i u) (i : Int) = u := by
  rw [rd_nat (xs := b.set i u) (by simpa using h)]
  simp

/-- A disk, a store, a server that is not too large. -/
def DiskS (d : TDisk) : Prop := Secs d.1 ∧ Secs d.2
def StoreS (s : TStore) : Prop := DiskS s.1 ∧ List.length s.2.2.2 ≤ 1048576 ∧ ∀ u ∈ s.2.2.2, List.length u.2.2.1 ≤ 2000000000
theorem s_copyDisk_eq (d : TDisk) (h : DiskS d) : P_s_l12Copy d = some (d, ()) := by
  have h1 := h.1.1
  have h2 := h.2.1
  simp only [P_s_l12Copy, B_s_l12Copy]
  rw [dec_true (by simp; omega), dec_true (by simp; omega), dec_true (by simp; omega), dec_true (by simp; omega)]
  simp
theorem s_copyStore_eq (s : TStore) (h : StoreS s) : P_s_l14Copy s = some (s, ()) := by
  simp only [P_s_l14Copy, B_s_l14Copy, s_copyDisk_eq _ h.1, copyUps_eq _ h.2.1 h.2.2, bindO]
theorem s_flush_eq (d : TDisk) (h : DiskS d) : P_s_FlushDisk d = some ((d.1, d.1), ()) := by
  have h1 := h.1.1
  simp only [P_s_FlushDisk, B_s_FlushDisk]
  rw [dec_true (by simp; omega), dec_true (by simp; omega)]
  simp
theorem s_TopEpoch_eq (d : TDisk) (h : Secs d.1) : P_s_TopEpoch d = some (topL d.1, ()) := by
  have hl := h.1
  simp only [P_s_TopEpoch, B_s_TopEpoch]
  have key := loopO_count (L_s_TopEpoch_0 P_s_GetRec d) (fun i => ((d.1.take i).foldl topOf (-1), (i : Int), ())) d.1.length (topL d.1, ()) (fun i hi => ?_) ?_
  · simpa using key
  · have g1 : ((i : Int) < (d.1.length : Int)) := by omega
    have g2 : (0 : Int) ≤ (i : Int) := by omega
    simp only [L_s_TopEpoch_0, dec_true g1, dec_true g2, cond_true]
    rw [s_GetRec_eq _ (secs_at h hi), w64 (by omega) (by omega)]
    simp only [bindO]
    have e : (d.1.take (i + 1)).foldl topOf (-1) = topOf ((d.1.take i).foldl topOf (-1)) (rd .str d.1 (i : Int)) := by
      rw [List.take_succ_eq_append_getElem hi, List.foldl_append, rd_str hi]
      rfl
    rw [e]
    generalize (d.1.take i).foldl topOf (-1) = t
    unfold topOf
    cases (getRec (rd .str d.1 (i : Int))).2.1
    · rfl
    · cases decide ((getRec (rd .str d.1 (i : Int))).1.1 > t) <;> rfl
  · simp [L_s_TopEpoch_0, topL]
theorem getRec_epoch (s : ByteArray) : (getRec s).1.1 ≤ 10000 := by
  unfold getRec
  split
  · rename_i h
    simp only [recGood, Bool.and_eq_true] at h
    exact (recOk_bnd h.1.2).2.1
  · simp [noRec]
theorem topL_le (l : List ByteArray) : -1 ≤ topL l ∧ topL l ≤ 10000 := by
  unfold topL
  have : ∀ (l : List ByteArray) (t : Int), -1 ≤ t ∧ t ≤ 10000 → -1 ≤ l.foldl topOf t ∧ l.foldl topOf t ≤ 10000 := by
    intro l
    induction l with
    | nil => exact fun t h => h
    | cons s l ih =>
      intro t h
      refine ih _ ?_
      have h2 := getRec_epoch s
      unfold topOf
      cases (getRec s).2.1 with
      | false => exact h
      | true =>
        by_cases h3 : (getRec s).1.1 > t
        · rw [dec_true h3]; simp only [cond_true]; omega
        · rw [dec_false h3]; exact h
  exact this l (-1) (by omega)
theorem secs_set {l : List ByteArray} (h : Secs l) (i : Nat) {s : ByteArray} (hs : s.size ≤ 1048576) : Secs (l.set i s) := ⟨by rw [List.length_set]; exact h.1, fun x hx => (List.mem_or_eq_of_mem_set hx).elim (h.2 x) (fun e => by rw [e]; exact hs)⟩

def reqMost (op : Int) : Int := if op = 1 then 1000000000 else if op = 3 then 1000000000 else if op = 4 then 4294967295 else 0
def reqOkB (r : TReq) : Bool := decide (1 ≤ r.1 ∧ r.1 ≤ 6) && idB r.2.1 && decide (0 ≤ r.2.2 ∧ r.2.2 ≤ reqMost r.1)
theorem s_ReqOk_eq (r : TReq) (h : r.2.1.size ≤ maxLen) : P_s_ReqOk r = some (reqOkB r, ()) := by
  simp only [P_s_ReqOk, B_s_ReqOk, l1In_eq, l11Id_eq _ h, bindO, reqOkB, P_s_l11Most, B_s_l11Most, reqMost]
  cases decide (1 ≤ r.1 ∧ r.1 ≤ 6)
  · rfl
  cases idB r.2.1
  · rfl
  simp only [Bool.not_true, cond_false, bindS, Bool.true_and]
  have hz : decide (0 ≤ r.2.2 ∧ r.2.2 ≤ 0) = decide (r.2.2 = 0) := by
    by_cases h0 : r.2.2 = 0
    · rw [dec_true h0, dec_true (by omega)]
    · rw [dec_false h0, dec_false (by omega)]
  by_cases h1 : r.1 = 1
  · simp [h1]
  by_cases h3 : r.1 = 3
  · simp [h3]
  by_cases h4 : r.1 = 4
  · simp [h4]
  simp [h1, h3, h4]
  rw [Bool.eq_iff_iff]
  simp
  omega
theorem i_ReqOk_eq (r : TReq) (h : r.2.1.size ≤ maxLen) : P_i_ReqOk r = some (reqOkB r, ()) := by
  simp only [P_i_ReqOk, B_i_ReqOk, inRange_eq, idOk_eq _ h, bindO, reqOkB, P_i_numberField, B_i_numberField, reqMost]
  by_cases h1 : r.1 = 1
  · simp [h1]; cases idB r.2.1 <;> simp
  by_cases h3 : r.1 = 3
  · simp [h3]; cases idB r.2.1 <;> simp
  by_cases h4 : r.1 = 4
  · simp [h4]; cases idB r.2.1 <;> simp
  simp only [dec_false h1, dec_false h3, dec_false h4, if_neg h1, if_neg h3, if_neg h4, cond_false]
  cases decide (1 ≤ r.1 ∧ r.1 ≤ 6) <;> cases idB r.2.1 <;> simp
def heldB (n : Nat) (h : THeld) : Bool := respOkB h.2 && decide (0 ≤ h.1 ∧ h.1 ≤ (n : Int) - 1)
def heldsB (n : Nat) (l : List THeld) : Bool := (List.range l.length).all fun i => heldB n (rd kHeld l (i : Int))
theorem s_Who_eq (w : TWorld) (l : List THeld) (h : l.length ≤ maxLen) (hc : w.2.1.length ≤ 1048576) : P_s_l18Who w l = some (heldsB w.2.1.length l, ()) := by
  simp only [P_s_l18Who, B_s_l18Who, heldsB]
  refine loopB _ l.length h (fun i => heldB w.2.1.length (rd kHeld l (i : Int))) (fun i hi => ?_) (by simp [L_s_l18Who_0])
  have g1 : ((i : Int) < (l.length : Int)) := by omega
  have g2 : (0 : Int) ≤ (i : Int) := by omega
  simp only [L_s_l18Who_0, dec_true g1, dec_true g2, cond_true, l1In_eq, s_RespOk_eq, bindO, heldB]
  rw [w64 (n := (w.2.1.length : Int) - 1) (by omega) (by omega)]
  cases decide (0 ≤ (rd kHeld l (i : Int)).1 ∧ (rd kHeld l (i : Int)).1 ≤ (w.2.1.length : Int) - 1) <;> cases respOkB (rd kHeld l (i : Int)).2 <;> rfl
theorem i_Who_eq (w : TWorld) (l : List THeld) (h : l.length ≤ maxLen) (hc : w.2.1.length ≤ 1048576) : P_i_heldOk w l = some (heldsB w.2.1.length l, ()) := by
  simp only [P_i_heldOk, B_i_heldOk, heldsB]
  refine loopB _ l.length h (fun i => heldB w.2.1.length (rd kHeld l (i : Int))) (fun i hi => ?_) (by simp [L_i_heldOk_0])
  have g1 : ((i : Int) < (l.length : Int)) := by omega
  have g2 : (0 : Int) ≤ (i : Int) := by omega
  simp only [L_i_heldOk_0, dec_true g1, dec_true g2, cond_true, inRange_eq, i_RespOk_eq, bindO, heldB]
  rw [w64 (n := (w.2.1.length : Int) - 1) (by omega) (by omega)]
  cases decide (0 ≤ (rd kHeld l (i : Int)).1 ∧ (rd kHeld l (i : Int)).1 ≤ (w.2.1.length : Int) - 1) <;> cases respOkB (rd kHeld l (i : Int)).2 <;> rfl
def ClsS (w : TWorld) : Prop := w.2.1.length ≤ 1048576 ∧ ∀ c ∈ w.2.1, c.1.size ≤ maxLen
theorem cls_inner_s (w : TWorld) (h : ClsS w) (i : Nat) (hi : i < w.2.1.length) : ∃ z, loopO (L_s_l18Clients_0 ((i : Int), ()) w) (0, ()) = some z ∧ (z = .inl ((i : Int) + 1, ()) ∨ z = .inr (.inr (false, ()))) := by
  have hl := h.1
  refine loopO_ind (L_s_l18Clients_0 ((i : Int), ()) w) (fun l => ((i : Int) - l.1).toNat) (fun l => 0 ≤ l.1) (fun z => z = .inl ((i : Int) + 1, ()) ∨ z = .inr (.inr (false, ()))) (fun l h0 => ?_) (0, ()) (by simp)
  simp only [L_s_l18Clients_0]
  by_cases hj : l.1 < (i : Int)
  · rw [dec_true hj, dec_true h0, dec_true (show l.1 < (w.2.1.length : Int) by omega), dec_true (show (0 : Int) ≤ (i : Int) by omega), dec_true (show (i : Int) < (w.2.1.length : Int) by omega)]
    simp only [cond_true]
    rw [w64 (n := l.1 + 1) (by omega) (by omega)]
    cases ((rd kClient w.2.1 l.1).1.toList == (rd kClient w.2.1 (i : Int)).1.toList)
    · exact .inl ⟨_, rfl, by simp only; omega, by simp only; omega⟩
    · exact .inr ⟨_, rfl, .inr rfl⟩
  · rw [dec_false hj, w64 (n := (i : Int) + 1) (by omega) (by omega)]
    exact .inr ⟨_, rfl, .inl rfl⟩
theorem cls_inner_i (w : TWorld) (h : ClsS w) (i : Nat) (hi : i < w.2.1.length) : loopO (L_i_clientsOk_0 w ((i : Int), ())) (0, ()) = loopO (L_s_l18Clients_0 ((i : Int), ()) w) (0, ()) := by
  have hl := h.1
  have hlen : ((w.2.1.take i).drop 0).length = i := by simp; omega
  refine loopO_congr (fun l => 0 ≤ l.1) (fun l h0 => ?_) (fun l y h0 e => ?_) (by simp)
  · simp only [L_i_clientsOk_0, L_s_l18Clients_0, Int.toNat_natCast, hlen]
    by_cases hj : l.1 < (i : Int)
    · obtain ⟨j, hn⟩ : ∃ j : Nat, l.1 = (j : Int) := ⟨l.1.toNat, by omega⟩
      rw [hn] at hj h0 ⊢
      rw [dec_true hj, dec_true h0, dec_true (show (j : Int) < (w.2.1.length : Int) by omega), dec_true (show (0 : Int) ≤ (i : Int) by omega), dec_true (show (i : Int) < (w.2.1.length : Int) by omega)]
      simp only [cond_true]
      have e : rd kClient ((w.2.1.take i).drop 0) (j : Int) = rd kClient w.2.1 (j : Int) := by
        rw [rd_nat (k := kClient) (xs := (w.2.1.take i).drop 0) (by rw [hlen]; omega), rd_nat (k := kClient) (xs := w.2.1) (by omega)]
        simp
      rw [e]
    · rw [dec_false hj]
      rfl
  · simp only [L_i_clientsOk_0, Int.toNat_natCast, hlen] at e
    by_cases hj : l.1 < (i : Int)
    · rw [dec_true hj, dec_true h0] at e
      simp only [cond_true] at e
      rw [w64 (n := l.1 + 1) (by omega) (by omega)] at e
      revert e
      cases ((rd kClient ((w.2.1.take i).drop 0) l.1).1.toList == (rd kClient w.2.1 (i : Int)).1.toList)
      · intro e
        simp only [cond_false] at e
        injection e with e; injection e with e; subst e
        simp only; omega
      · intro e
        simp only [cond_true] at e
        injection e with e; cases e
    · rw [dec_false hj] at e
      simp only [cond_false] at e
      injection e with e; cases e
theorem cls_step (w : TWorld) (h : ClsS w) (l : Int × Unit) (h0 : 0 ≤ l.1) :
    L_i_clientsOk_1 P_i_ClientOk w l = L_s_l18Clients_1 P_s_ClientOk w l ∧ ((∃ y, L_s_l18Clients_1 P_s_ClientOk w l = some (.inl y) ∧ y.1 = l.1 + 1 ∧ l.1 < (w.2.1.length : Int)) ∨ L_s_l18Clients_1 P_s_ClientOk w l = some (.inr (.inl ())) ∨ L_s_l18Clients_1 P_s_ClientOk w l = some (.inr (.inr (false, ())))) := by
  have hl := h.1
  simp only [L_i_clientsOk_1, L_s_l18Clients_1]
  by_cases hi : l.1 < (w.2.1.length : Int)
  · obtain ⟨i, hn⟩ : ∃ i : Nat, l.1 = (i : Int) := ⟨l.1.toNat, by omega⟩
    obtain ⟨l1, u⟩ := l
    simp only at hn hi h0
    subst hn
    have hi' : i < w.2.1.length := by omega
    have hsz : (rd kClient w.2.1 (i : Int)).1.size ≤ maxLen := by
      rw [rd_nat (k := kClient) (xs := w.2.1) hi']
      exact h.2 _ (List.getElem_mem hi')
    simp only
    rw [dec_true hi, dec_true h0, i_ClientOk_eq _ hsz, s_ClientOk_eq _ hsz, dec_true (show (i : Int) ≤ (w.2.1.length : Int) by omega), cls_inner_i w h i hi']
    simp only [cond_true, bindO]
    cases clientOkB (rd kClient w.2.1 (i : Int)) with
    | false => exact ⟨trivial, .inr (.inr rfl)⟩
    | true =>
      obtain ⟨z, e, hz⟩ := cls_inner_s w h i hi'
      simp only [Bool.not_true, cond_false]
      refine ⟨trivial, ?_⟩
      rw [e]
      rcases hz with rfl | rfl
      · exact .inl ⟨_, rfl, rfl, hi⟩
      · exact .inr (.inr rfl)
  · rw [dec_false hi]
    exact ⟨rfl, .inr (.inl rfl)⟩
theorem clients_eq (w : TWorld) (h : ClsS w) : ∃ b, P_s_l18Clients w = some (b, ()) ∧ P_i_clientsOk w = some (b, ()) ∧ (b = true → w.2.1.length ≤ 6 ∧ w.2.2.1.length = w.2.1.length ∧ w.2.2.2.2.2.length = w.2.1.length) := by
  have hl := h.1
  have e1 : loopO (L_i_clientsOk_1 P_i_ClientOk w) (0, ()) = loopO (L_s_l18Clients_1 P_s_ClientOk w) (0, ()) := by
    refine loopO_congr (fun l => 0 ≤ l.1) (fun l h0 => (cls_step w h l h0).1) (fun l y h0 e => ?_) (by simp)
    rw [(cls_step w h l h0).1] at e
    rcases (cls_step w h l h0).2 with ⟨y', e2, e3, _⟩ | e2 | e2
    · rw [e2] at e; injection e with e; injection e with e; subst e; omega
    · rw [e2] at e; injection e with e; cases e
    · rw [e2] at e; injection e with e; cases e
  obtain ⟨z, e2, hz⟩ := loopO_ind (L_s_l18Clients_1 P_s_ClientOk w) (fun l => ((w.2.1.length : Int) - l.1).toNat) (fun l => 0 ≤ l.1) (fun z => z = .inl () ∨ z = .inr (false, ())) (fun l h0 => by
    rcases (cls_step w h l h0).2 with ⟨y', e2, e3, e4⟩ | e2 | e2
    · exact .inl ⟨y', e2, by omega, by omega⟩
    · exact .inr ⟨_, e2, .inl rfl⟩
    · exact .inr ⟨_, e2, .inr rfl⟩) (0, ()) (by simp)
  simp only [P_s_l18Clients, B_s_l18Clients, P_i_clientsOk, B_i_clientsOk, e1, e2]
  rcases hz with rfl | rfl
  · simp only [bindS]
    by_cases h1 : (w.2.1.length : Int) ≤ 6
    · rw [dec_true h1]
      by_cases h2 : (w.2.2.1.length : Int) = (w.2.1.length : Int)
      · rw [dec_true h2]
        refine ⟨_, rfl, rfl, fun e => ?_⟩
        have e3 := of_decide_eq_true e
        omega
      · rw [dec_false h2]
        exact ⟨_, rfl, rfl, fun e => by cases e⟩
    · rw [dec_false h1]
      exact ⟨_, rfl, rfl, fun e => by cases e⟩
  · exact ⟨_, rfl, rfl, fun e => by cases e⟩
def wantB (n : Nat) (a : TWant) : Bool := reqOkB a.2.1 && decide (0 ≤ a.1 ∧ a.1 ≤ (n : Int) - 1)
/-- A world that is not too large. -/
def WorS (w : TWorld) : Prop := Secs w.1.1.1.1 ∧ w.1.2.length ≤ 1048576 ∧ ClsS w ∧ (w.2.2.2.1.length ≤ 1048576 ∧ ∀ a ∈ w.2.2.2.1, a.2.1.2.1.size ≤ maxLen) ∧ w.2.2.2.2.1.length ≤ 1048576
theorem worldOk_eq (w : TWorld) (h : WorS w) : ∃ b, P_s_WorldOk w = some (b, ()) ∧ P_i_WorldOk w = some (b, ()) := by
  obtain ⟨h1, h2, h3, ⟨h4, h4'⟩, h5⟩ := h
  have hc := h3.1
  obtain ⟨bs, es, ei, _⟩ := serverOk_eq w.1 h1 h2
  obtain ⟨bc, cs, ci, _⟩ := clients_eq w h3
  have ht := s_Who_eq w w.2.2.2.2.1 (by simp only [maxLen]; omega) hc
  have ht' := i_Who_eq w w.2.2.2.2.1 (by simp only [maxLen]; omega) hc
  have hh := s_Who_eq w w.1.2 (by simp only [maxLen]; omega) hc
  have hh' := i_Who_eq w w.1.2 (by simp only [maxLen]; omega) hc
  have hloop := loopB (L_s_WorldOk_0 P_s_ReqOk P_s_l1In w) w.2.2.2.1.length (by simp only [maxLen]; omega) (fun i => wantB w.2.1.length (rd kWant w.2.2.2.1 (i : Int))) (fun i hi => by
    have g1 : ((i : Int) < (w.2.2.2.1.length : Int)) := by omega
    have g2 : (0 : Int) ≤ (i : Int) := by omega
    have hsz : (rd kWant w.2.2.2.1 (i : Int)).2.1.2.1.size ≤ maxLen := by
      rw [rd_nat (k := kWant) (xs := w.2.2.2.1) hi]
      exact h4' _ (List.getElem_mem hi)
    simp only [L_s_WorldOk_0, dec_true g1, dec_true g2, cond_true, l1In_eq, s_ReqOk_eq _ hsz, bindO, wantB]
    rw [w64 (n := (w.2.1.length : Int) - 1) (by omega) (by omega)]
    cases decide (0 ≤ (rd kWant w.2.2.2.1 (i : Int)).1 ∧ (rd kWant w.2.2.2.1 (i : Int)).1 ≤ (w.2.1.length : Int) - 1) <;> cases reqOkB (rd kWant w.2.2.2.1 (i : Int)).2.1 <;> rfl) (by simp [L_s_WorldOk_0])
  have istep : ∀ i : Nat, i < w.2.2.2.1.length → L_i_WorldOk_0 P_i_ReqOk P_i_inRange w ((i : Int), ()) = bif wantB w.2.1.length (rd kWant w.2.2.2.1 (i : Int)) then some (.inl (((i + 1 : Nat) : Int), ())) else some (.inr (.inr (false, ()))) := fun i hi => by
    have g1 : ((i : Int) < (w.2.2.2.1.length : Int)) := by omega
    have g2 : (0 : Int) ≤ (i : Int) := by omega
    have hsz : (rd kWant w.2.2.2.1 (i : Int)).2.1.2.1.size ≤ maxLen := by
      rw [rd_nat (k := kWant) (xs := w.2.2.2.1) hi]
      exact h4' _ (List.getElem_mem hi)
    have e1 : ((i + 1 : Nat) : Int) = (i : Int) + 1 := by omega
    simp only [L_i_WorldOk_0, dec_true g1, dec_true g2, cond_true, inRange_eq, i_ReqOk_eq _ hsz, bindO, wantB, e1]
    rw [w64 (n := (w.2.1.length : Int) - 1) (by omega) (by omega), w64 (n := (i : Int) + 1) (by omega) (by omega)]
    cases decide (0 ≤ (rd kWant w.2.2.2.1 (i : Int)).1 ∧ (rd kWant w.2.2.2.1 (i : Int)).1 ≤ (w.2.1.length : Int) - 1) <;> cases reqOkB (rd kWant w.2.2.2.1 (i : Int)).2.1 <;> rfl
  simp only [P_s_WorldOk, B_s_WorldOk, P_i_WorldOk, B_i_WorldOk, es, ei, cs, ci, ht, ht', hh, hh', hloop, bindO]
  have hirest : (bif heldsB w.2.1.length w.2.2.2.2.1 then bif heldsB w.2.1.length w.1.2 then some (bs, ()) else some (false, ()) else some (false, ())) = some (heldsB w.2.1.length w.2.2.2.2.1 && heldsB w.2.1.length w.1.2 && bs, ()) := by
    cases heldsB w.2.1.length w.2.2.2.2.1 <;> cases heldsB w.2.1.length w.1.2 <;> rfl
  have hi := strs_of istep (by simp [L_i_WorldOk_0]) (fun _ => (bif heldsB w.2.1.length w.2.2.2.2.1 then bif heldsB w.2.1.length w.1.2 then some (bs, ()) else some (false, ()) else some (false, ()))) _ hirest
  rw [firstN_all] at hi
  generalize ((List.range w.2.2.2.1.length).all fun i => wantB w.2.1.length (rd kWant w.2.2.2.1 (i : Int))) = ba at hi ⊢
  cases bc with
  | false =>
    cases bs <;> exact ⟨_, rfl, rfl⟩
  | true =>
    simp only [Bool.not_true, cond_false]
    cases decide ((w.2.2.2.1.length : Int) > 60) with
    | true => cases bs <;> exact ⟨_, rfl, rfl⟩
    | false =>
      cases decide ((w.2.2.2.2.1.length : Int) > 60) with
      | true => cases bs <;> exact ⟨_, rfl, rfl⟩
      | false =>
        simp only [cond_false]
        have e0 : ∀ g : Unit → Option (Bool × Unit), bindS (some (.inl () : Unit ⊕ (Bool × Unit))) g = g () := fun g => rfl
        simp only [e0]
        refine ⟨_, ?_, hi⟩
        cases bs <;> cases heldsB w.2.1.length w.2.2.2.2.1 <;> cases heldsB w.2.1.length w.1.2 <;> simp [bindS]


theorem strOf_inj {a b : List Int} (ha : Byt a) (hb : Byt b) (h : (strOf a).toList = (strOf b).toList) : a = b := by
  rw [ByteArray.toList_eq, ByteArray.toList_eq] at h
  have h2 : (a.map fun n => UInt8.ofNat n.toNat) = b.map fun n => UInt8.ofNat n.toNat := h
  have hl : a.length = b.length := by simpa using congrArg List.length h2
  refine List.ext_getElem hl fun i h1 h3 => ?_
  have h4 := congrArg (fun l => l[i]?) h2
  simp only [List.getElem?_map, List.getElem?_eq_getElem h1, List.getElem?_eq_getElem h3, Option.map_some, Option.some.injEq] at h4
  exact u8_inj (ha _ (List.getElem_mem h1)) (hb _ (List.getElem_mem h3)) h4
theorem str_inj {a b : ByteArray} (h : a.toList = b.toList) : a = b := by
  rw [ByteArray.toList_eq, ByteArray.toList_eq] at h
  obtain ⟨⟨a⟩⟩ := a
  obtain ⟨⟨b⟩⟩ := b
  have h : a = b := h
  rw [h]
theorem sameUp_eq {a b : TUp} (ha : Byt a.2.2.1) (hb : Byt b.2.2.1) (h : sameUpB a b = true) : a = b := by
  simp only [sameUpB, Bool.and_eq_true, beq_iff_eq, decide_eq_true_eq] at h
  obtain ⟨⟨⟨h1, h2⟩, h3⟩, h4⟩ := h
  obtain ⟨a1, a2, a3, a4⟩ := a
  obtain ⟨b1, b2, b3, b4⟩ := b
  simp only at h1 h2 h3 h4 ha hb
  rw [str_inj h1, h2, h3, strOf_inj ha hb h4]
theorem sameUps_eq {a b : List TUp} (ha : ∀ u ∈ a, Byt u.2.2.1) (hb : ∀ u ∈ b, Byt u.2.2.1) (h : sameUpsB a b = true) : a = b := by
  simp only [sameUpsB, Bool.and_eq_true, decide_eq_true_eq, List.all_eq_true, List.mem_range] at h
  refine List.ext_getElem h.1 fun i h1 h3 => ?_
  have h4 := h.2 i h1
  rw [rd_nat (k := kUp) (xs := a) h1, rd_nat (k := kUp) (xs := b) h3] at h4
  exact sameUp_eq (ha _ (List.getElem_mem h1)) (hb _ (List.getElem_mem h3)) h4
/-- A store with one record more. -/
def wrote (st : TStore) (r : TRec) (us : List TUp) : TStore := ((st.1.1.set st.2.2.1.toNat (putRec r), st.1.2), st.2.1, st.2.2.1 + 1, us)
theorem s_write_eq (st : TStore) (a b kind : Int) (id : ByteArray) (n : Int) (data : List Int) (hU : Ups st.2.2.2) (hr : recOkB (st.2.1, st.2.2.1, kind, id, n, data) = true) (hb : Byt data) (h0 : 0 ≤ st.2.2.1) (h1 : st.2.2.1 < (st.1.1.length : Int)) (hl : st.1.1.length ≤ 1048576)
    (us : List TUp) (hf : foldOne st.2.2.2 (st.2.1, st.2.2.1, kind, id, n, data) = some us) : P_s_l14Write_r0_4 st (a, b, kind, id, n, data) = some (wrote st (st.2.1, st.2.2.1, kind, id, n, data) us, ()) := by
  have hbd := recOk_bnd hr
  simp only at hbd
  simp only [P_s_l14Write_r0_4, B_s_l14Write_r0_4]
  rw [s_l13Put_eq (st.2.1, st.2.2.1, kind, id, n, data) (by simp only; omega) (by simp only; omega) hb, dec_true h0, dec_true h1]
  simp only [bindO, cond_true]
  obtain ⟨x, hx, hx2⟩ := s_one_eq st.2.2.2 (st.2.1, st.2.2.1, kind, id, n, data) hU (by simp only; omega)
  have hI : foldI st.2.2.2 (st.2.1, st.2.2.1, kind, id, n, data) = (us, true, ()) := by unfold foldI; rw [hf]
  rw [hI] at hx hx2
  rw [hx, hx2 rfl, w64 (by omega) (by omega)]
  rfl
theorem putRec_size {r : TRec} (h : recOkB r = true) : (putRec r).size ≤ 1000 := by
  have hb := recOk_bnd h
  unfold putRec
  rw [strOf_size, List.length_append, recB_len, big_len]
  omega
theorem wrote_disk {st : TStore} (h : DiskS st.1) {r : TRec} (hr : recOkB r = true) (us : List TUp) : DiskS (wrote st r us).1 := ⟨secs_set h.1 _ (by have := putRec_size hr; omega), h.2⟩
theorem s_at_eq (us : List TUp) (id : ByteArray) (h : Ups us) : P_s_l14At us id = some (if upHas us id = true then (upIns us id : Int) else -1, ()) := by
  have hl := h.2.1
  rw [l14At_eq us id (by simp only [maxLen]; omega)]
  cases hh : upHas us id with
  | true =>
    obtain ⟨hlt, _⟩ := upHas_iff.1 hh
    rw [upIx_has h.1 hh, if_pos hlt, if_pos rfl]
  | false => rw [upIx_not h.1 hh, if_neg (Nat.lt_irrefl _), if_neg (by simp)]
theorem s_left_eq (st : TStore) (h0 : 0 ≤ st.2.2.1) (h1 : st.2.2.1 ≤ (st.1.1.length : Int)) (hl : st.1.1.length ≤ 1048576) : P_s_l14Left st = some ((st.1.1.length : Int) - st.2.2.1, ()) := by
  simp only [P_s_l14Left, B_s_l14Left]
  rw [w64 (by omega) (by omega)]
def newDisk (n : Int) : TDisk := if 0 ≤ n ∧ n ≤ 200 then (List.replicate n.toNat ⟨#[]⟩, List.replicate n.toNat ⟨#[]⟩) else ([], [])
theorem newDisk_len (n : Int) : List.length (newDisk n).1 ≤ 200 ∧ List.length (newDisk n).2 ≤ 200 := by
  unfold newDisk
  split
  · simp; omega
  · simp
theorem s_DiskNew_eq (n : Int) : P_s_DiskNew n = some (newDisk n, ()) := by
  simp only [P_s_DiskNew, B_s_DiskNew, newDisk]
  by_cases h : 0 ≤ n ∧ n ≤ 200
  · rw [if_pos h]
    have key := loopO_count (L_s_DiskNew_0 n) (fun i => ((i : Int), List.replicate i ⟨#[]⟩, List.replicate i ⟨#[]⟩, ())) n.toNat ((List.replicate n.toNat ⟨#[]⟩, List.replicate n.toNat ⟨#[]⟩), ()) (fun i hi => ?_) ?_
    · exact key
    · have h1 : (i : Int) < n := by omega
      simp only [L_s_DiskNew_0, dec_true h1, dec_true h.2, cond_true, bindS]
      rw [dec_true (by simp; omega), dec_true (by simp; omega)]
      simp only [cond_true]
      rw [w64 (by omega) (by omega), List.replicate_succ']
      rfl
    · have h1 : ¬ ((n.toNat : Int) < n) := by omega
      simp only [L_s_DiskNew_0, dec_false h1, cond_false, bindS]
  · rw [if_neg h]
    refine loopO_end ?_
    simp only [L_s_DiskNew_0]
    by_cases h1 : (0 : Int) < n
    · rw [dec_true h1, dec_false (show ¬ n ≤ 200 by omega)]; rfl
    · rw [dec_false h1]; rfl
def newServer (n : Int) : TServer := ((newDisk n, 0, 0, []), [])
theorem s_ServerNew_eq (n : Int) : P_s_ServerNew n = some (newServer n, ()) := by
  simp only [P_s_ServerNew, B_s_ServerNew, P_s_StoreNew, B_s_StoreNew, s_DiskNew_eq, bindO, newServer]

theorem bO {α β : Type} (x : α) (f : α → Option β) : bindO (some x) f = f x := rfl
theorem l1Once_ok (c : TL1Cur) (n : Int) (h : Cur c) (hn : 0 < n ∧ n < 9223372036854775808) : ∃ b c', P_s_l1Once c n = some (b, c', ()) ∧ Cur c' := by
  obtain ⟨r, c', e, hc, _⟩ := l1Below_ok c n h hn
  simp only [P_s_l1Once, B_s_l1Once, e, bindO]
  exact ⟨_, _, rfl, hc⟩

/-- An upload changed in place stays in its place. -/
theorem upIns_set {us : List TUp} {id : ByteArray} (hh : upHas us id = true) (u : TUp) (hu : u.1 = (rd kUp us (upIns us id : Int)).1) : upHas (us.set (upIns us id) u) id = true ∧ upIns (us.set (upIns us id) u) id = upIns us id ∧ rd kUp (us.set (upIns us id) u) (upIns us id : Int) = u := by
  obtain ⟨hlt, hid⟩ := upHas_iff.1 hh
  rw [rd_nat (k := kUp) (xs := us) hlt] at hu
  have hk : ∀ q (hq : q < us.length), ((us.set (upIns us id) u)[q]'(by simpa using hq)).1 = us[q].1 := fun q hq => by
    rw [List.getElem_set]
    split
    · rename_i e; subst e; exact hu
    · rfl
  have hrd : rd kUp (us.set (upIns us id) u) (upIns us id : Int) = u := rd_set (k := kUp) hlt u
  have e1 : upIns (us.set (upIns us id) u) id = upIns us id := by
    refine firstN_uniq _ (us.set (upIns us id) u).length _ (by simp; omega) (fun j hj => ?_) (fun _ => ?_)
    · rw [rd_nat (k := kUp) (xs := us.set (upIns us id) u) (by simp; omega), hk j (by omega)]
      exact upIns_lo hj
    · rw [hrd, hu]
      exact upIns_at hlt
  refine ⟨?_, e1, hrd⟩
  unfold upHas
  rw [e1, hrd, hu, hid]
  simp
  omega


theorem topL_ge {l : List ByteArray} {s : ByteArray} (hs : s ∈ l) (hk : (getRec s).2.1 = true) : (getRec s).1.1 ≤ topL l := by
  have h := foldl_top (getRec s).1.1 l (-1)
  by_cases hx : (getRec s).1.1 ≤ topL l
  · exact hx
  · exfalso
    have h1 : decide (l.foldl topOf (-1) < (getRec s).1.1) = true := decide_eq_true (by have : topL l = l.foldl topOf (-1) := rfl; omega)
    rw [h1] at h
    have h2 := (Bool.and_eq_true _ _ ▸ h.symm : _ ∧ _).2
    have h3 := List.all_eq_true.1 h2 s hs
    simp only [newer, hk, Bool.true_and] at h3
    rw [dec_true (by omega)] at h3
    cases h3
def diskB (d : TDisk) : Bool := decide (d.1.length = d.2.length ∧ d.1.length ≤ 200) && ((List.range d.1.length).all fun i => !decide (((rd .str d.1 (i : Int)).size : Int) > 64) && !decide (((rd .str d.2 (i : Int)).size : Int) > 64))
theorem s_DiskOk_eq (d : TDisk) : P_s_DiskOk d = some (diskB d, ()) := by
  simp only [P_s_DiskOk, B_s_DiskOk, diskB]
  by_cases h1 : (d.1.length : Int) = (d.2.length : Int)
  · rw [dec_true h1]
    by_cases h2 : (d.1.length : Int) > 200
    · rw [dec_true h2, dec_false (show ¬ (d.1.length = d.2.length ∧ d.1.length ≤ 200) by omega)]
      rfl
    · rw [dec_false h2, dec_true (show d.1.length = d.2.length ∧ d.1.length ≤ 200 by omega)]
      simp only [Bool.not_true, cond_false, bindS, Bool.true_and]
      refine loopB (L_s_DiskOk_0 d) d.1.length (by simp only [maxLen]; omega) (fun i => !decide (((rd .str d.1 (i : Int)).size : Int) > 64) && !decide (((rd .str d.2 (i : Int)).size : Int) > 64)) (fun i hi => ?_) (by simp [L_s_DiskOk_0])
      have g1 : ((i : Int) < (d.1.length : Int)) := by omega
      have g2 : (0 : Int) ≤ (i : Int) := by omega
      have g3 : ((i : Int) < (d.2.length : Int)) := by omega
      simp only [L_s_DiskOk_0, dec_true g1, dec_true g2, dec_true g3, cond_true]
      cases decide (((rd .str d.1 (i : Int)).size : Int) > 64) <;> cases decide (((rd .str d.2 (i : Int)).size : Int) > 64) <;> rfl
  · rw [dec_false h1, dec_false (show ¬ (d.1.length = d.2.length ∧ d.1.length ≤ 200) by omega)]
    rfl
theorem diskB_now {d : TDisk} (h : diskB d = true) : diskB (d.1, d.1) = true := by
  simp only [diskB, Bool.and_eq_true] at h ⊢
  refine ⟨decide_eq_true ⟨trivial, (of_decide_eq_true h.1).2⟩, List.all_eq_true.2 fun i hi => ?_⟩
  have := List.all_eq_true.1 h.2 i hi
  simp only [Bool.and_eq_true] at this ⊢
  exact ⟨this.1, this.1⟩
theorem sameUpsB_refl (us : List TUp) : sameUpsB us us = true := by
  simp only [sameUpsB, Bool.and_eq_true]
  refine ⟨decide_eq_true trivial, List.all_eq_true.2 fun i hi => ?_⟩
  simp [sameUpB]

def catUp (us : List TUp) (id : ByteArray) (ch : List Int) : List TUp :=
  us.set (upIns us id) ((rd kUp us (upIns us id : Int)).1, (rd kUp us (upIns us id : Int)).2.1, (rd kUp us (upIns us id : Int)).2.2.1 ++ ch, (rd kUp us (upIns us id : Int)).2.2.2)
def putOne (st : TStore) (id : ByteArray) (n : Int) (ch : List Int) : TStore := wrote st (st.2.1, st.2.2.1, 2, id, n, ch) (catUp st.2.2.2 id ch)
/-- The store behind the first pieces. -/
def putAt (st : TStore) (id : ByteArray) (off : Int) (dat : List Int) : Nat → TStore
  | 0 => st
  | j + 1 => putOne (putAt st id off dat j) id (off + ((j * 24 : Nat) : Int)) (pieceL 24 dat j)
def nPc (dat : List Int) : Nat := (dat.length + 24 - 1) / 24
structure PutC (st : TStore) (id : ByteArray) (off : Int) (dat : List Int) : Prop where
  idok : idB id = true
  ep : 0 ≤ st.2.1 ∧ st.2.1 ≤ 10000
  nx : 0 ≤ st.2.2.1 ∧ st.2.2.1 + (nPc dat : Int) ≤ (st.1.1.length : Int)
  len : st.1.1.length ≤ 200
  dk : DiskS st.1
  up : Ups st.2.2.2
  has : upHas st.2.2.2 id = true
  nd : (rd kUp st.2.2.2 (upIns st.2.2.2 id : Int)).2.2.2 = false
  at' : off = (List.length (rd kUp st.2.2.2 (upIns st.2.2.2 id : Int)).2.2.1 : Int)
  fits : off + (dat.length : Int) ≤ (rd kUp st.2.2.2 (upIns st.2.2.2 id : Int)).2.1
  byt : Byt dat
  lo : 1 ≤ dat.length
structure PutI (st : TStore) (id : ByteArray) (off : Int) (dat : List Int) (j : Nat) (s : TStore) : Prop where
  ep : s.2.1 = st.2.1
  nx : s.2.2.1 = st.2.2.1 + (j : Int)
  len : s.1.1.length = st.1.1.length
  dk : DiskS s.1
  up : Ups s.2.2.2
  has : upHas s.2.2.2 id = true
  ix : upIns s.2.2.2 id = upIns st.2.2.2 id
  val : rd kUp s.2.2.2 (upIns s.2.2.2 id : Int) = ((rd kUp st.2.2.2 (upIns st.2.2.2 id : Int)).1, (rd kUp st.2.2.2 (upIns st.2.2.2 id : Int)).2.1, (rd kUp st.2.2.2 (upIns st.2.2.2 id : Int)).2.2.1 ++ dat.take (j * 24), false)
theorem pieceL_len (dat : List Int) (j : Nat) (h : j * 24 < dat.length) : 1 ≤ (pieceL 24 dat j).length ∧ (pieceL 24 dat j).length ≤ 24 ∧ (pieceL 24 dat j).length = min (j * 24 + 24) dat.length - j * 24 := by
  have e : (pieceL 24 dat j).length = min (j * 24 + 24) dat.length - j * 24 := by unfold pieceL; rw [List.length_drop, List.length_take]
  rw [e]
  refine ⟨by omega, by omega, rfl⟩
theorem pieceL_next (dat : List Int) (j : Nat) : dat.take (j * 24) ++ pieceL 24 dat j = dat.take ((j + 1) * 24) := by
  have h := List.take_append_drop (j * 24) (dat.take (j * 24 + 24))
  rw [List.take_take, Nat.min_eq_left (by omega)] at h
  rw [show (j + 1) * 24 = j * 24 + 24 by omega]
  exact h
theorem nPc_lt {dat : List Int} {j : Nat} : j < nPc dat ↔ j * 24 < dat.length := by
  unfold nPc
  omega
theorem put_step {st : TStore} {id : ByteArray} {off : Int} {dat : List Int} (hc : PutC st id off dat) {j : Nat} {s : TStore} (h : PutI st id off dat j s) (hj : j < nPc dat) :
    recOkB (s.2.1, s.2.2.1, 2, id, off + ((j * 24 : Nat) : Int), pieceL 24 dat j) = true ∧ foldOne s.2.2.2 (s.2.1, s.2.2.1, 2, id, off + ((j * 24 : Nat) : Int), pieceL 24 dat j) = some (catUp s.2.2.2 id (pieceL 24 dat j)) ∧
      PutI st id off dat (j + 1) (putOne s id (off + ((j * 24 : Nat) : Int)) (pieceL 24 dat j)) := by
  obtain ⟨p1, p2, p3⟩ := pieceL_len dat j (nPc_lt.1 hj)
  have hj2 := nPc_lt.1 hj
  have hlen0 : (List.length (dat.take (j * 24)) : Int) = ((j * 24 : Nat) : Int) := by rw [List.length_take]; omega
  obtain ⟨hlt, _⟩ := upHas_iff.1 hc.has
  have hu := hc.up.2.2 _ (List.getElem_mem hlt)
  rw [← rd_nat (k := kUp) hlt] at hu
  have hu1 := hu.1
  have hu2 := hu.2.1
  have hat := hc.at'
  have hft := hc.fits
  have hn1 := hc.nx.1
  have hn2 := hc.nx.2
  have hl := hc.len
  have hnx := h.nx
  have hbp : Byt (pieceL 24 dat j) := byt_drop (byt_take hc.byt _) _
  have hr : recOkB (s.2.1, s.2.2.1, 2, id, off + ((j * 24 : Nat) : Int), pieceL 24 dat j) = true := by
    simp only [recOkB, hc.idok, h.ep]
    rw [dec_true hc.ep, dec_true (show 0 ≤ s.2.2.1 ∧ s.2.2.1 ≤ 199 by omega), if_neg (by omega), if_pos trivial, dec_true (show 0 ≤ off + ((j * 24 : Nat) : Int) ∧ off + ((j * 24 : Nat) : Int) ≤ 1000000000 by omega), dec_true (show 1 ≤ (List.length (pieceL 24 dat j) : Int) ∧ (List.length (pieceL 24 dat j) : Int) ≤ 24 by omega)]
    rfl
  have hf : foldOne s.2.2.2 (s.2.1, s.2.2.1, 2, id, off + ((j * 24 : Nat) : Int), pieceL 24 dat j) = some (catUp s.2.2.2 id (pieceL 24 dat j)) := by
    have e1 : (List.length (rd kUp s.2.2.2 (upIns s.2.2.2 id : Int)).2.2.1 : Int) = off + ((j * 24 : Nat) : Int) := by
      rw [h.val]; simp only [List.length_append]; omega
    have e2 : (rd kUp s.2.2.2 (upIns s.2.2.2 id : Int)).2.2.2 = false := by rw [h.val]
    have e3 : @Eq Int (rd kUp s.2.2.2 (upIns s.2.2.2 id : Int)).2.1 (rd kUp st.2.2.2 (upIns st.2.2.2 id : Int)).2.1 := by rw [h.val]
    simp only [foldOne, h.has, e2, catUp]
    rw [if_neg (by omega), if_neg (by simp), if_pos trivial, if_neg (fun hx => by
      rcases hx with hx | hx | hx
      · cases hx
      · exact hx e1.symm
      · have hx2 : (List.length (rd kUp s.2.2.2 (upIns s.2.2.2 id : Int)).2.2.1 : Int) + (List.length (pieceL 24 dat j) : Int) > (rd kUp st.2.2.2 (upIns st.2.2.2 id : Int)).2.1 := by rw [← e3]; exact hx
        omega)]
  have hus := foldOne_ups h.up ⟨hr, hbp⟩ hf
  obtain ⟨k1, k2, k3⟩ := upIns_set h.has ((rd kUp s.2.2.2 (upIns s.2.2.2 id : Int)).1, (rd kUp s.2.2.2 (upIns s.2.2.2 id : Int)).2.1, (rd kUp s.2.2.2 (upIns s.2.2.2 id : Int)).2.2.1 ++ pieceL 24 dat j, (rd kUp s.2.2.2 (upIns s.2.2.2 id : Int)).2.2.2) rfl
  refine ⟨hr, hf, h.ep, ?_, ?_, wrote_disk h.dk hr _, hus, k1, k2.trans h.ix, ?_⟩
  · show s.2.2.1 + 1 = st.2.2.1 + ((j + 1 : Nat) : Int)
    omega
  · show (s.1.1.set _ _).length = _
    rw [List.length_set]; exact h.len
  · show rd kUp (s.2.2.2.set (upIns s.2.2.2 id) _) ((upIns (s.2.2.2.set (upIns s.2.2.2 id) _) id : Nat) : Int) = _
    rw [k2, k3, h.val]
    simp only [List.append_assoc, pieceL_next]
theorem putI_0 {st : TStore} {id : ByteArray} {off : Int} {dat : List Int} (hc : PutC st id off dat) : PutI st id off dat 0 st :=
  ⟨rfl, by simp, rfl, hc.dk, hc.up, hc.has, rfl, by
    have e2 : (rd kUp st.2.2.2 (upIns st.2.2.2 id : Int)).2.2.2 = false := hc.nd
    rw [Nat.zero_mul, List.take_zero, List.append_nil, ← e2]⟩
theorem putI_at {st : TStore} {id : ByteArray} {off : Int} {dat : List Int} (hc : PutC st id off dat) : ∀ j, j ≤ nPc dat → PutI st id off dat j (putAt st id off dat j)
  | 0, _ => putI_0 hc
  | j + 1, hj => (put_step hc (putI_at hc j (by omega)) (by omega)).2.2
theorem s_put_loop {st : TStore} {id : ByteArray} {off : Int} {dat : List Int} (hc : PutC st id off dat) (h400 : dat.length ≤ 400) :
    loopO (L_s_PutUp_r99_0_0 P_s_l14Write_r0_4 dat id off) (0, st.2.1, st.2.2.1, st.2.2.2, st.1.1, st.1.2, ()) =
      some ((putAt st id off dat (nPc dat)).2.1, (putAt st id off dat (nPc dat)).2.2.1, (putAt st id off dat (nPc dat)).2.2.2, (putAt st id off dat (nPc dat)).1.1, (putAt st id off dat (nPc dat)).1.2, ()) := by
  obtain ⟨z, e, hz⟩ := loopO_ind (L_s_PutUp_r99_0_0 P_s_l14Write_r0_4 dat id off) (fun l => ((dat.length : Int) + 24 - l.1).toNat)
    (fun l => ∃ j : Nat, j ≤ nPc dat ∧ l = (((j * 24 : Nat) : Int), (putAt st id off dat j).2.1, (putAt st id off dat j).2.2.1, (putAt st id off dat j).2.2.2, (putAt st id off dat j).1.1, (putAt st id off dat j).1.2, ()))
    (fun z => z = ((putAt st id off dat (nPc dat)).2.1, (putAt st id off dat (nPc dat)).2.2.1, (putAt st id off dat (nPc dat)).2.2.2, (putAt st id off dat (nPc dat)).1.1, (putAt st id off dat (nPc dat)).1.2, ())) (fun l hl => by
      obtain ⟨j, hj, rfl⟩ := hl
      have hI := putI_at hc j hj
      have hl := hc.len
      have hn1 := hc.nx.1
      have hn2 := hc.nx.2
      have hnx := hI.nx
      have hle := hI.len
      obtain ⟨hlt', _⟩ := upHas_iff.1 hc.has
      have hu := hc.up.2.2 _ (List.getElem_mem hlt')
      rw [← rd_nat (k := kUp) hlt'] at hu
      have hu2 := hu.2.1
      have hat := hc.at'
      have hft := hc.fits
      simp only [L_s_PutUp_r99_0_0]
      by_cases hi : j < nPc dat
      · have hj2 := nPc_lt.1 hi
        obtain ⟨hr, hf, hn⟩ := put_step hc hI hi
        obtain ⟨p1, p2, p3⟩ := pieceL_len dat j hj2
        rw [dec_true (show ((j * 24 : Nat) : Int) < (dat.length : Int) by omega), w64 (n := ((j * 24 : Nat) : Int) + 24) (by omega) (by omega)]
        obtain ⟨to, hto, hto2⟩ : ∃ to : Int, (bif decide (((j * 24 : Nat) : Int) + 24 > (dat.length : Int)) then some ((dat.length : Int), ()) else some (((j * 24 : Nat) : Int) + 24, ())) = some (to, ()) ∧ (to.toNat = min (j * 24 + 24) dat.length ∧ 0 ≤ to) := by
          by_cases hcc : ((j * 24 : Nat) : Int) + 24 > (dat.length : Int)
          · rw [dec_true hcc]; exact ⟨_, rfl, by omega, by omega⟩
          · rw [dec_false hcc]; exact ⟨_, rfl, by omega, by omega⟩
        simp only [cond_true, hto, bO]
        have hpc : (dat.take to.toNat).drop ((j * 24 : Nat) : Int).toNat = pieceL 24 dat j := by
          rw [hto2.1, Int.toNat_natCast, pieceL, List.take_eq_take_iff.2 (show min (min (j * 24 + 24) dat.length) dat.length = min (j * 24 + 24) dat.length by omega)]
        rw [hpc, dec_true (show 0 ≤ ((j * 24 : Nat) : Int) by omega), dec_true (show ((j * 24 : Nat) : Int) ≤ to by omega), dec_true (show to ≤ (dat.length : Int) by omega), dec_true (by simp; omega), dec_true (by simp; omega), w64 (n := off + ((j * 24 : Nat) : Int)) (by omega) (by omega)]
        simp only [cond_true, List.nil_append]
        have hw := s_write_eq (putAt st id off dat j) 0 0 2 id (off + ((j * 24 : Nat) : Int)) (pieceL 24 dat j) hI.up hr (byt_drop (byt_take hc.byt _) _) (by omega) (by omega) (by omega) _ hf
        have hw' : P_s_l14Write_r0_4 (((putAt st id off dat j).1.1, (putAt st id off dat j).1.2), ((putAt st id off dat j).2.1, ((putAt st id off dat j).2.2.1, (putAt st id off dat j).2.2.2))) (0, (0, (2, (id, (off + ((j * 24 : Nat) : Int), pieceL 24 dat j))))) = some (putAt st id off dat (j + 1), ()) := hw
        rw [hw']
        simp only [bO]
        refine .inl ⟨_, rfl, ⟨j + 1, by omega, ?_⟩, by simp only; omega⟩
        rw [show ((j * 24 : Nat) : Int) + 24 = (((j + 1) * 24 : Nat) : Int) by omega]
      · have : j = nPc dat := by omega
        subst this
        have : ¬ nPc dat * 24 < dat.length := fun h => hi (nPc_lt.2 h)
        rw [dec_false (show ¬ ((nPc dat * 24 : Nat) : Int) < (dat.length : Int) by omega)]
        exact .inr ⟨_, rfl, rfl⟩) (0, st.2.1, st.2.2.1, st.2.2.2, st.1.1, st.1.2, ()) ⟨0, by omega, rfl⟩
  rw [e, hz]
/-- What PutUp makes of a right store. -/
def putF (st : TStore) (id : ByteArray) (off : Int) (dat : List Int) : TStore × Int :=
  if idB id = true ∧ 1 ≤ dat.length ∧ dat.length ≤ 400 then
    (if upHas st.2.2.2 id = true then
      (if (rd kUp st.2.2.2 (upIns st.2.2.2 id : Int)).2.2.2 = true ∨ off ≠ (List.length (rd kUp st.2.2.2 (upIns st.2.2.2 id : Int)).2.2.1 : Int) ∨ off + (dat.length : Int) > (rd kUp st.2.2.2 (upIns st.2.2.2 id : Int)).2.1 then (st, 4)
       else if (st.1.1.length : Int) - st.2.2.1 < (nPc dat : Int) then (st, 5) else (putAt st id off dat (nPc dat), 0))
     else (st, 2))
  else (st, 1)
theorem tdiv24 (dat : List Int) (h : dat.length ≤ 400) : (IntKind.i64.wrap ((IntKind.i64.wrap ((IntKind.i64.wrap ((dat.length : Int) + 24)) - 1)).tdiv 24)) = (nPc dat : Int) := by
  have htd : ((dat.length : Int) + 24 - 1).tdiv 24 = (nPc dat : Int) := by
    rw [Int.tdiv_eq_ediv_of_nonneg (by omega)]
    unfold nPc
    omega
  rw [w64 (n := (dat.length : Int) + 24) (by omega) (by omega), w64 (n := (dat.length : Int) + 24 - 1) (by omega) (by omega), htd, w64 (by unfold nPc; omega) (by unfold nPc; omega)]
/-- A right store. -/
structure Rt (st : TStore) : Prop where
  g : StoreG st
  up : Ups st.2.2.2
  dk : DiskS st.1
theorem putC_of {st : TStore} {id : ByteArray} {off : Int} {dat : List Int} (h : Rt st) (hb : Byt dat) (h1 : idB id = true) (h2 : 1 ≤ dat.length ∧ dat.length ≤ 400) (h3 : upHas st.2.2.2 id = true)
    (h4 : ¬ ((rd kUp st.2.2.2 (upIns st.2.2.2 id : Int)).2.2.2 = true ∨ off ≠ (List.length (rd kUp st.2.2.2 (upIns st.2.2.2 id : Int)).2.2.1 : Int) ∨ off + (dat.length : Int) > (rd kUp st.2.2.2 (upIns st.2.2.2 id : Int)).2.1))
    (h5 : ¬ (st.1.1.length : Int) - st.2.2.1 < (nPc dat : Int)) : PutC st id off dat := by
  obtain ⟨g1, g2, g3, g4, ⟨g5, g6⟩, _⟩ := h.g
  rw [not_or, not_or] at h4
  refine ⟨h1, ⟨g1, g2⟩, ⟨g5, by omega⟩, g4, h.dk, h.up, h3, by simpa using h4.1, Decidable.not_not.1 h4.2.1, by have h6 := h4.2.2; exact Int.not_lt.1 h6, hb, h2.1⟩
theorem s_putUp_eq (st : TStore) (id : ByteArray) (off : Int) (dat : List Int) (hid : id.size ≤ maxLen) (h : Rt st) (hS : StoreS st) (hok : P_s_StoreOk st = some (true, ())) (hb : Byt dat) (hd : dat.length ≤ 1048576) (ho : -9223372036854775808 ≤ off ∧ off ≤ 9223372036854775807) :
    P_s_PutUp_r99_0 st id off dat = some ((putF st id off dat).1, (putF st id off dat).2, ()) := by
  obtain ⟨g1, g2, g3, g4, ⟨g5, g6⟩, _⟩ := h.g
  have hU := h.up
  have hl : st.1.1.length ≤ 1048576 := by omega
  simp only [P_s_PutUp_r99_0, B_s_PutUp_r99_0, s_copyStore_eq st hS, hok, l11Id_eq id hid, l1In_eq, bO, putF]
  cases hidb : idB id with
  | false => simp [bindS]
  | true =>
    simp only [Bool.not_true, cond_false, true_and]
    by_cases hlen : 1 ≤ (dat.length : Int) ∧ (dat.length : Int) ≤ 400
    · rw [dec_true hlen, if_pos (show 1 ≤ dat.length ∧ dat.length ≤ 400 by omega)]
      simp only [Bool.not_true, cond_false, bindS]
      rw [s_at_eq st.2.2.2 id hU, s_left_eq st g5 g6 hl, tdiv24 dat (by omega)]
      cases hh : upHas st.2.2.2 id with
      | false =>
        simp only [Bool.false_eq_true, if_false, bO]
        rw [dec_true (show (-1 : Int) < 0 by omega)]
        rfl
      | true =>
        obtain ⟨hlt, hid2⟩ := upHas_iff.1 hh
        have hu := hU.2.2 _ (List.getElem_mem hlt)
        rw [← rd_nat (k := kUp) hlt] at hu
        have hu1 := hu.1
        have hu2 := hu.2.1
        simp only [if_true, bO]
        rw [dec_false (show ¬ (upIns st.2.2.2 id : Int) < 0 by omega), dec_true (show (0 : Int) ≤ (upIns st.2.2.2 id : Int) by omega), dec_true (show (upIns st.2.2.2 id : Int) < (st.2.2.2.length : Int) by omega)]
        simp only [cond_true, cond_false]
        cases hdn : (rd kUp st.2.2.2 (upIns st.2.2.2 id : Int)).2.2.2 with
        | true => simp [bO]
        | false =>
          simp only [cond_false]
          cases ho' : decide (off = (List.length (rd kUp st.2.2.2 (upIns st.2.2.2 id : Int)).2.2.1 : Int)) with
          | false =>
            have ho := of_decide_eq_false ho'
            rw [if_pos (.inr (.inl ho))]
            rfl
          | true =>
            have ho := of_decide_eq_true ho'
            simp only [Bool.not_true, cond_false, bO]
            rw [w64 (n := off + (dat.length : Int)) (by omega) (by omega)]
            by_cases hw : off + (dat.length : Int) > (rd kUp st.2.2.2 (upIns st.2.2.2 id : Int)).2.1
            · rw [dec_true hw, if_pos (.inr (.inr hw))]
              rfl
            · have hno : ¬ ((rd kUp st.2.2.2 (upIns st.2.2.2 id : Int)).2.2.2 = true ∨ off ≠ (List.length (rd kUp st.2.2.2 (upIns st.2.2.2 id : Int)).2.2.1 : Int) ∨ off + (dat.length : Int) > (rd kUp st.2.2.2 (upIns st.2.2.2 id : Int)).2.1) := by
                rw [hdn]; rintro (hx | hx | hx)
                · cases hx
                · exact hx ho
                · exact hw hx
              have hno' := hno
              rw [hdn] at hno'
              rw [dec_false hw, if_neg hno']
              simp only [cond_false, bO]
              by_cases hleft : (st.1.1.length : Int) - st.2.2.1 < (nPc dat : Int)
              · rw [dec_true hleft, if_pos hleft]
                rfl
              · rw [dec_false hleft, if_neg hleft]
                simp only [cond_false]
                have hc := putC_of h hb hidb ⟨by omega, by omega⟩ hh hno hleft
                rw [s_put_loop hc (by omega)]
                rfl
    · rw [dec_false hlen, if_neg (show ¬ (1 ≤ dat.length ∧ dat.length ≤ 400) by omega)]
      rfl
theorem ups_storeS {s : TStore} (hd : DiskS s.1) (hu : Ups s.2.2.2) : StoreS s := ⟨hd, by have := hu.2.1; omega, ups_dat hu⟩

def makeF (st : TStore) (id : ByteArray) (want : Int) : TStore × Int :=
  if idB id = true ∧ 0 ≤ want ∧ want ≤ 1000000 then
    (if upHas st.2.2.2 id = true then (st, 3)
     else if (st.1.1.length : Int) - st.2.2.1 < 1 ∨ 10 ≤ st.2.2.2.length then (st, 5)
     else (wrote st (st.2.1, st.2.2.1, 1, id, want, []) (st.2.2.2.take (upIns st.2.2.2 id) ++ (id, want, [], false) :: st.2.2.2.drop (upIns st.2.2.2 id)), 0))
  else (st, 1)
def doneF (st : TStore) (id : ByteArray) (sum : Int) : TStore × Int :=
  if idB id = true then
    (if upHas st.2.2.2 id = true then
      (if (List.length (rd kUp st.2.2.2 (upIns st.2.2.2 id : Int)).2.2.1 : Int) < (rd kUp st.2.2.2 (upIns st.2.2.2 id : Int)).2.1 then (st, 4)
       else if sum ≠ ((crcL (rd kUp st.2.2.2 (upIns st.2.2.2 id : Int)).2.2.1 ^^^ 4294967295 : Nat) : Int) then (st, 6)
       else if (rd kUp st.2.2.2 (upIns st.2.2.2 id : Int)).2.2.2 = true then (st, 0)
       else if (st.1.1.length : Int) - st.2.2.1 < 1 then (st, 5)
       else (wrote st (st.2.1, st.2.2.1, 3, id, 0, []) (st.2.2.2.set (upIns st.2.2.2 id) ((rd kUp st.2.2.2 (upIns st.2.2.2 id : Int)).1, (rd kUp st.2.2.2 (upIns st.2.2.2 id : Int)).2.1, (rd kUp st.2.2.2 (upIns st.2.2.2 id : Int)).2.2.1, true)), 0))
     else (st, 2))
  else (st, 1)
def dropF (st : TStore) (id : ByteArray) : TStore × Int :=
  if idB id = true then
    (if upHas st.2.2.2 id = true then
      (if (st.1.1.length : Int) - st.2.2.1 < 1 then (st, 5)
       else (wrote st (st.2.1, st.2.2.1, 4, id, 0, []) (st.2.2.2.take (upIns st.2.2.2 id) ++ st.2.2.2.drop (upIns st.2.2.2 id + 1)), 0))
     else (st, 2))
  else (st, 1)
theorem rec_ok {st : TStore} (h : StoreG st) (k n : Int) (id : ByteArray) (hid : idB id = true) (hl : ¬ (st.1.1.length : Int) - st.2.2.1 < 1) (hk : k = 1 ∧ 0 ≤ n ∧ n ≤ 1000000000 ∨ (k = 3 ∨ k = 4) ∧ n = 0) : recOkB (st.2.1, st.2.2.1, k, id, n, []) = true := by
  obtain ⟨g1, g2, g3, g4, ⟨g5, g6⟩, _⟩ := h
  simp only [recOkB, hid, List.length_nil]
  rw [dec_true (show 0 ≤ st.2.1 ∧ st.2.1 ≤ 10000 by omega), dec_true (show 0 ≤ st.2.2.1 ∧ st.2.2.1 ≤ 199 by omega)]
  rcases hk with ⟨rfl, h0, h1⟩ | ⟨rfl | rfl, rfl⟩
  · rw [if_pos rfl, dec_true (show 0 ≤ n ∧ n ≤ 1000000000 from ⟨h0, h1⟩)]; rfl
  · rfl
  · rfl
theorem make_fold {st : TStore} {id : ByteArray} {want : Int} (h1 : ¬ upHas st.2.2.2 id = true) (h2 : ¬ 10 ≤ st.2.2.2.length) : foldOne st.2.2.2 (st.2.1, st.2.2.1, 1, id, want, []) = some (st.2.2.2.take (upIns st.2.2.2 id) ++ (id, want, [], false) :: st.2.2.2.drop (upIns st.2.2.2 id)) := by
  simp only [foldOne, if_true]
  rw [if_neg (fun h => h.elim h1 h2)]
theorem done_fold {st : TStore} {id : ByteArray} (hU : Ups st.2.2.2) (h1 : upHas st.2.2.2 id = true) (h2 : ¬ (List.length (rd kUp st.2.2.2 (upIns st.2.2.2 id : Int)).2.2.1 : Int) < (rd kUp st.2.2.2 (upIns st.2.2.2 id : Int)).2.1) (h3 : ¬ (rd kUp st.2.2.2 (upIns st.2.2.2 id : Int)).2.2.2 = true) :
    foldOne st.2.2.2 (st.2.1, st.2.2.1, 3, id, 0, []) = some (st.2.2.2.set (upIns st.2.2.2 id) ((rd kUp st.2.2.2 (upIns st.2.2.2 id : Int)).1, (rd kUp st.2.2.2 (upIns st.2.2.2 id : Int)).2.1, (rd kUp st.2.2.2 (upIns st.2.2.2 id : Int)).2.2.1, true)) := by
  obtain ⟨hlt, hid2⟩ := upHas_iff.1 h1
  have hu := hU.2.2 _ (List.getElem_mem hlt)
  rw [← rd_nat (k := kUp) hlt] at hu
  have hu1 := hu.1
  simp only [foldOne, h1]
  rw [if_neg (by omega), if_neg (by simp), if_neg (by omega), if_pos trivial, if_neg (fun h => h.elim h3 (fun h => h (Int.le_antisymm hu1 (Int.not_lt.1 h2))))]
theorem drop_fold {st : TStore} {id : ByteArray} (h1 : upHas st.2.2.2 id = true) : foldOne st.2.2.2 (st.2.1, st.2.2.1, 4, id, 0, []) = some (st.2.2.2.take (upIns st.2.2.2 id) ++ st.2.2.2.drop (upIns st.2.2.2 id + 1)) := by
  simp only [foldOne, h1]
  rw [if_neg (by omega), if_neg (by simp), if_neg (by omega), if_neg (by omega), if_pos trivial]
theorem s_makeUp_eq (st : TStore) (id : ByteArray) (want : Int) (hid : id.size ≤ maxLen) (h : Rt st) (hS : StoreS st) (hok : P_s_StoreOk st = some (true, ())) : P_s_MakeUp_r99_0 st id want = some ((makeF st id want).1, (makeF st id want).2, ()) := by
  obtain ⟨g1, g2, g3, g4, ⟨g5, g6⟩, _⟩ := h.g
  have hU := h.up
  have hl : st.1.1.length ≤ 1048576 := by omega
  have hul := hU.2.1
  simp only [P_s_MakeUp_r99_0, B_s_MakeUp_r99_0, s_copyStore_eq st hS, hok, l11Id_eq id hid, l1In_eq, bO, makeF]
  cases hidb : idB id with
  | false => simp [bindS, bO]
  | true =>
    simp only [Bool.not_true, cond_false, true_and]
    by_cases hw : 0 ≤ want ∧ want ≤ 1000000
    · rw [dec_true hw, if_pos hw]
      simp only [Bool.not_true, cond_false, bindS]
      rw [s_at_eq st.2.2.2 id hU, s_left_eq st g5 g6 hl]
      cases hh : upHas st.2.2.2 id with
      | true =>
        simp only [if_true, bO]
        rw [dec_true (show (upIns st.2.2.2 id : Int) ≥ 0 by omega)]
        rfl
      | false =>
        simp only [Bool.false_eq_true, if_false, bO]
        rw [dec_false (show ¬ (-1 : Int) ≥ 0 by omega)]
        simp only [cond_false]
        by_cases hleft : (st.1.1.length : Int) - st.2.2.1 < 1
        · rw [dec_true hleft, if_pos (.inl hleft)]
          rfl
        · rw [dec_false hleft]
          simp only [cond_false]
          by_cases h10 : 10 ≤ st.2.2.2.length
          · rw [dec_true (show (st.2.2.2.length : Int) = 10 by omega), if_pos (.inr h10)]
            rfl
          · rw [dec_false (show ¬ (st.2.2.2.length : Int) = 10 by omega), if_neg (fun hx => hx.elim hleft h10)]
            simp only [cond_false]
            have hr := rec_ok h.g 1 want id hidb hleft (.inl ⟨rfl, hw.1, by omega⟩)
            have hf := make_fold (st := st) (id := id) (want := want) (by rw [hh]; simp) h10
            rw [s_write_eq st 0 0 1 id want [] hU hr byt_nil g5 (by omega) hl _ hf]
            rfl
    · rw [dec_false hw, if_neg hw]
      rfl
theorem s_doneUp_eq (st : TStore) (id : ByteArray) (sum : Int) (hid : id.size ≤ maxLen) (h : Rt st) (hS : StoreS st) (hok : P_s_StoreOk st = some (true, ())) : P_s_DoneUp_r99_0 st id sum = some ((doneF st id sum).1, (doneF st id sum).2, ()) := by
  obtain ⟨g1, g2, g3, g4, ⟨g5, g6⟩, _⟩ := h.g
  have hU := h.up
  have hl : st.1.1.length ≤ 1048576 := by omega
  have hul := hU.2.1
  simp only [P_s_DoneUp_r99_0, B_s_DoneUp_r99_0, s_copyStore_eq st hS, hok, l11Id_eq id hid, bO, doneF]
  cases hidb : idB id with
  | false => rfl
  | true =>
    simp only [Bool.not_true, cond_false, bindS, if_true]
    rw [s_at_eq st.2.2.2 id hU, s_left_eq st g5 g6 hl]
    cases hh : upHas st.2.2.2 id with
    | false =>
      simp only [Bool.false_eq_true, if_false, bO]
      rw [dec_true (show (-1 : Int) < 0 by omega)]
      rfl
    | true =>
      obtain ⟨hlt, hid2⟩ := upHas_iff.1 hh
      have hu := hU.2.2 _ (List.getElem_mem hlt)
      have hdl := ups_dat hU _ (List.getElem_mem hlt)
      rw [← rd_nat (k := kUp) hlt] at hu hdl
      simp only [if_true, bO]
      rw [dec_false (show ¬ (upIns st.2.2.2 id : Int) < 0 by omega), dec_true (show (0 : Int) ≤ (upIns st.2.2.2 id : Int) by omega), dec_true (show (upIns st.2.2.2 id : Int) < (st.2.2.2.length : Int) by omega)]
      simp only [cond_true, cond_false]
      rw [s_Crc_eq _ hu.2.2.2 (by simp only [maxLen]; omega)]
      simp only [bO]
      by_cases hd1 : (List.length (rd kUp st.2.2.2 (upIns st.2.2.2 id : Int)).2.2.1 : Int) < (rd kUp st.2.2.2 (upIns st.2.2.2 id : Int)).2.1
      · rw [dec_true hd1, if_pos hd1]
        rfl
      rw [dec_false hd1, if_neg hd1]
      simp only [cond_false]
      by_cases hc : sum = ((crcL (rd kUp st.2.2.2 (upIns st.2.2.2 id : Int)).2.2.1 ^^^ 4294967295 : Nat) : Int)
      · rw [dec_true hc, if_neg (fun hx => hx hc)]
        simp only [Bool.not_true, cond_false]
        cases hdn : (rd kUp st.2.2.2 (upIns st.2.2.2 id : Int)).2.2.2 with
        | true => rfl
        | false =>
          simp only [Bool.not_false, cond_true, cond_false, Bool.false_eq_true, if_false, bO]
          by_cases hleft : (st.1.1.length : Int) - st.2.2.1 < 1
          · rw [dec_true hleft, if_pos hleft]
            rfl
          · rw [dec_false hleft, if_neg hleft]
            simp only [cond_false]
            have hr := rec_ok h.g 3 0 id hidb hleft (.inr ⟨.inl rfl, rfl⟩)
            have hf := done_fold hU hh hd1 (by rw [hdn]; simp)
            rw [s_write_eq st 0 0 3 id 0 [] hU hr byt_nil g5 (by omega) hl _ hf]
            rfl
      · rw [dec_false hc, if_pos hc]
        rfl
theorem s_dropUp_eq (st : TStore) (id : ByteArray) (hid : id.size ≤ maxLen) (h : Rt st) (hS : StoreS st) (hok : P_s_StoreOk st = some (true, ())) : P_s_DropUp_r99_0 st id = some ((dropF st id).1, (dropF st id).2, ()) := by
  obtain ⟨g1, g2, g3, g4, ⟨g5, g6⟩, _⟩ := h.g
  have hU := h.up
  have hl : st.1.1.length ≤ 1048576 := by omega
  have hul := hU.2.1
  simp only [P_s_DropUp_r99_0, B_s_DropUp_r99_0, s_copyStore_eq st hS, hok, l11Id_eq id hid, bO, dropF]
  cases hidb : idB id with
  | false => rfl
  | true =>
    simp only [Bool.not_true, cond_false, bindS, if_true]
    rw [s_at_eq st.2.2.2 id hU, s_left_eq st g5 g6 hl]
    cases hh : upHas st.2.2.2 id with
    | false =>
      simp only [Bool.false_eq_true, if_false, bO]
      rw [dec_true (show (-1 : Int) < 0 by omega)]
      rfl
    | true =>
      simp only [if_true, bO]
      rw [dec_false (show ¬ (upIns st.2.2.2 id : Int) < 0 by omega)]
      simp only [cond_false]
      by_cases hleft : (st.1.1.length : Int) - st.2.2.1 < 1
      · rw [dec_true hleft, if_pos hleft]
        rfl
      · rw [dec_false hleft, if_neg hleft]
        simp only [cond_false]
        have hr := rec_ok h.g 4 0 id hidb hleft (.inr ⟨.inr rfl, rfl⟩)
        have hf := drop_fold (st := st) hh
        rw [s_write_eq st 0 0 4 id 0 [] hU hr byt_nil g5 (by omega) hl _ hf]
        rfl

theorem bytesOf_strOf {xs : List Int} (h : Byt xs) : bytesOf (strOf xs) = xs := by
  show ((strOfNums xs).data.toList.map fun b => (b.toNat : Int)) = xs
  rw [strOfNums_data, List.map_map]
  refine (List.map_congr_left fun x hx => ?_).trans (List.map_id _)
  have := h x hx
  simp only [Function.comp, id]
  have e : (UInt8.ofNat x.toNat).toNat = x.toNat % 256 := UInt8.toNat_ofNat
  rw [e]
  omega
theorem strOf_bytesOf (s : ByteArray) : strOf (bytesOf s) = s := by
  refine str_inj ?_
  rw [ByteArray.toList_eq, ByteArray.toList_eq]
  show ((bytesOf s).map fun n => UInt8.ofNat n.toNat) = s.data.toList
  rw [bytesOf, List.map_map]
  refine (List.map_congr_left fun x hx => ?_).trans (List.map_id _)
  simp
theorem wrap_u8_mod (n : Nat) : IntKind.u8.wrap (n : Int) = ((n % 256 : Nat) : Int) := by
  simp only [IntKind.wrap, IntKind.bits, IntKind.signed]
  simp
theorem mul_or_byte (x y : Nat) (h : y < 256) : (x * 256) ||| y = x * 256 + y := by
  have := Nat.two_pow_add_eq_or_of_lt (i := 8) (b := y) (by simpa using h) x
  rw [Nat.mul_comm x 256]
  exact this.symm
theorem bigN_big (p q : List Int) (n k : Nat) : ∀ j, j ≤ k → bigN (p ++ (big (n : Int) k ++ q)) p.length j = n / 2 ^ (8 * (k - j)) % 2 ^ (8 * j)
  | 0, _ => by simp [bigN, Nat.mod_one]
  | j + 1, hj => by
    have ih := bigN_big p q n k j (by omega)
    have hget : (p ++ (big (n : Int) k ++ q)).getD (p.length + j) 0 = bigAt (n : Int) k j := by
      simp only [List.getD]
      rw [List.getElem?_append_right (by omega), Nat.add_sub_cancel_left, List.getElem?_append_left (by rw [big_len]; omega)]
      simp only [big, List.getElem?_map, List.getElem?_range (show j < k by omega), Option.map_some, Option.getD_some]
    have hat : bigAt (n : Int) k j = ((n / 2 ^ (8 * (k - 1 - j)) % 256 : Nat) : Int) := by
      unfold bigAt
      rw [← wrap_u8_mod]
      congr 1
      rw [show (2 : Int) ^ (8 * (k - 1 - j)) = ((2 ^ (8 * (k - 1 - j)) : Nat) : Int) by rw [Int.natCast_pow]; rfl, Int.fdiv_eq_ediv_of_nonneg _ (Int.natCast_nonneg _), ← Int.natCast_ediv]
    simp only [bigN]
    rw [ih, hget, hat, Int.toNat_natCast, mul_or_byte _ _ (Nat.mod_lt _ (by omega))]
    rw [show k - 1 - j = k - (j + 1) by omega]
    have e1 : 2 ^ (8 * (k - j)) = 2 ^ (8 * (k - (j + 1))) * 256 := by rw [show 8 * (k - j) = 8 * (k - (j + 1)) + 8 by omega, Nat.pow_add]
    have e2 : 2 ^ (8 * (j + 1)) = 256 * 2 ^ (8 * j) := by rw [show 8 * (j + 1) = 8 + 8 * j by omega, Nat.pow_add]
    rw [e1, ← Nat.div_div_eq_div_mul, e2, Nat.mod_mul]
    omega
theorem bigN_big' {b : List Int} (p q : List Int) (n : Int) (k a : Nat) (h : b = p ++ (big n k ++ q)) (ha : a = p.length) (h0 : 0 ≤ n) (h1 : n < 2 ^ (8 * k)) : (bigN b a k : Int) = n := by
  subst h; subst ha
  obtain ⟨m, rfl⟩ : ∃ m : Nat, n = (m : Int) := ⟨n.toNat, by omega⟩
  rw [bigN_big p q m k k (Nat.le_refl _), Nat.sub_self, Nat.mul_zero, Nat.pow_zero, Nat.div_one]
  rw [show (2 : Int) ^ (8 * k) = ((2 ^ (8 * k) : Nat) : Int) by rw [Int.natCast_pow]; rfl] at h1
  rw [Nat.mod_eq_of_lt (by omega)]
theorem putRec_bytes {r : TRec} (h : RecG r) : bytesOf (putRec r) = recB r ++ big (clamp (crcI (recB r))) 4 := by
  unfold putRec
  exact bytesOf_strOf (byt_app (recB_byt r h.2) (byt_big _ _))
theorem recB_eq {r : TRec} (h : recOkB r = true) (c : List Int) : recB r ++ c = big r.1 3 ++ (big r.2.1 2 ++ (big r.2.2.1 1 ++ (big (r.2.2.2.1.size : Int) 1 ++ (bytesOf r.2.2.2.1 ++ (big r.2.2.2.2.1 4 ++ (big (List.length r.2.2.2.2.2 : Int) 1 ++ (r.2.2.2.2.2 ++ c))))))) := by
  have hb := recOk_bnd h
  have hq : 0 ≤ r.2.1 := by
    simp only [recOkB, Bool.and_eq_true] at h
    exact (of_decide_eq_true h.1.1.2).1
  unfold recB
  rw [clamp_nn (n := r.1) (by omega), clamp_nn (n := r.2.1) hq, clamp_nn (n := r.2.2.1) (by omega), clamp_nn (n := (r.2.2.2.1.size : Int)) (by omega), clamp_nn (n := r.2.2.2.2.1) (by omega), clamp_nn (n := (List.length r.2.2.2.2.2 : Int)) (by omega)]
  simp only [List.append_assoc]
theorem recOk_seq {r : TRec} (h : recOkB r = true) : 0 ≤ r.2.1 ∧ r.2.1 ≤ 199 := by
  simp only [recOkB, Bool.and_eq_true] at h
  exact of_decide_eq_true h.1.1.2
theorem recAt_put {r : TRec} (h : recOkB r = true) (c : List Int) : idLen (recB r ++ c) = r.2.2.2.1.size ∧ datLen (recB r ++ c) = List.length r.2.2.2.2.2 ∧ recAt (recB r ++ c) = r := by
  have hb := recOk_bnd h
  have hq := recOk_seq h
  have e := recB_eq h c
  generalize recB r ++ c = b at e
  have b6 : (bigN b 6 1 : Int) = (r.2.2.2.1.size : Int) := bigN_big' (big r.1 3 ++ (big r.2.1 2 ++ big r.2.2.1 1)) _ _ 1 6 (by rw [e]; simp only [List.append_assoc]; rfl) (by simp [big_len]) (by omega) (by omega)
  have hid : idLen b = r.2.2.2.1.size := by unfold idLen; omega
  have b11 : (bigN b (11 + idLen b) 1 : Int) = (List.length r.2.2.2.2.2 : Int) :=
    bigN_big' (big r.1 3 ++ (big r.2.1 2 ++ (big r.2.2.1 1 ++ (big (r.2.2.2.1.size : Int) 1 ++ (bytesOf r.2.2.2.1 ++ big r.2.2.2.2.1 4))))) _ _ 1 _ (by rw [e]; simp only [List.append_assoc]; rfl) (by simp [big_len, bytesOf_length, hid]; omega) (by omega) (by omega)
  have hdl : datLen b = List.length r.2.2.2.2.2 := by unfold datLen; omega
  refine ⟨hid, hdl, ?_⟩
  have b0 : (bigN b 0 3 : Int) = r.1 := bigN_big' [] _ _ 3 0 (by rw [e]; rfl) rfl (by omega) (by omega)
  have b3 : (bigN b 3 2 : Int) = r.2.1 := bigN_big' (big r.1 3) _ _ 2 3 (by rw [e]) (by simp [big_len]) (by omega) (by omega)
  have b5 : (bigN b 5 1 : Int) = r.2.2.1 := bigN_big' (big r.1 3 ++ big r.2.1 2) _ _ 1 5 (by rw [e]; simp only [List.append_assoc]; rfl) (by simp [big_len]) (by omega) (by omega)
  have b7 : (bigN b (7 + idLen b) 4 : Int) = r.2.2.2.2.1 := bigN_big' (big r.1 3 ++ (big r.2.1 2 ++ (big r.2.2.1 1 ++ (big (r.2.2.2.1.size : Int) 1 ++ bytesOf r.2.2.2.1)))) _ _ 4 _ (by rw [e]; simp only [List.append_assoc]; rfl) (by simp [big_len, bytesOf_length, hid]; omega) (by omega) (by omega)
  have t1 : (b.take (7 + idLen b)).drop 7 = bytesOf r.2.2.2.1 := by
    have e7 : b = (big r.1 3 ++ (big r.2.1 2 ++ (big r.2.2.1 1 ++ big (r.2.2.2.1.size : Int) 1))) ++ (bytesOf r.2.2.2.1 ++ (big r.2.2.2.2.1 4 ++ (big (List.length r.2.2.2.2.2 : Int) 1 ++ (r.2.2.2.2.2 ++ c)))) := by rw [e]; simp only [List.append_assoc]
    have hl7 : (big r.1 3 ++ (big r.2.1 2 ++ (big r.2.2.1 1 ++ big (r.2.2.2.1.size : Int) 1))).length = 7 := by simp [big_len]
    rw [hid, List.drop_take, Nat.add_sub_cancel_left, e7, ← hl7, List.drop_left, ← bytesOf_length, List.take_left]
  have t2 : (b.take (12 + idLen b + datLen b)).drop (12 + idLen b) = r.2.2.2.2.2 := by
    have e12 : b = (big r.1 3 ++ (big r.2.1 2 ++ (big r.2.2.1 1 ++ (big (r.2.2.2.1.size : Int) 1 ++ (bytesOf r.2.2.2.1 ++ (big r.2.2.2.2.1 4 ++ big (List.length r.2.2.2.2.2 : Int) 1)))))) ++ (r.2.2.2.2.2 ++ c) := by rw [e]; simp only [List.append_assoc]
    have hl12 : (big r.1 3 ++ (big r.2.1 2 ++ (big r.2.2.1 1 ++ (big (r.2.2.2.1.size : Int) 1 ++ (bytesOf r.2.2.2.1 ++ (big r.2.2.2.2.1 4 ++ big (List.length r.2.2.2.2.2 : Int) 1)))))).length = 12 + r.2.2.2.1.size := by simp [big_len, bytesOf_length]; omega
    rw [hid, hdl, List.drop_take, Nat.add_sub_cancel_left, e12, ← hl12, List.drop_left, List.take_left]
  unfold recAt
  rw [b0, b3, b5, b7, t1, t2, strOf_bytesOf]
theorem getRec_put {r : TRec} (h : RecG r) : getRec (putRec r) = (r, true, ()) := by
  have hpb := putRec_bytes h
  obtain ⟨h1, h2, h3⟩ := recAt_put h.1 (big (clamp (crcI (recB r))) 4)
  have hsz : (putRec r).size = 12 + r.2.2.2.1.size + List.length r.2.2.2.2.2 + 4 := by
    unfold putRec
    rw [strOf_size, List.length_append, recB_len, big_len]
  have hg : recGood (putRec r) = true := by
    unfold recGood
    rw [hpb, h1, h2, h3, hsz, dec_true (by omega), h.1]
    simp
  unfold getRec
  rw [if_pos hg, hpb, h3]
theorem putRec_64 {r : TRec} (h : recOkB r = true) : (putRec r).size ≤ 64 := by
  have hb := recOk_bnd h
  unfold putRec
  rw [strOf_size, List.length_append, recB_len, big_len]
  omega

/-- A sector goes on with the records: its record. -/
def goesOn (last : Int) (i : Nat) (s : ByteArray) : Bool := (getRec s).2.1 && decide ((getRec s).1.2.1 = (i : Int)) && !decide ((getRec s).1.1 < last)
/-- The records at the beginning of sectors. -/
def scanF (last : Int) (i : Nat) : List ByteArray → List TRec
  | [] => []
  | s :: l => if goesOn last i s = true then (getRec s).1 :: scanF (getRec s).1.1 (i + 1) l else []
def scanL (now : List ByteArray) : List TRec := scanF 0 0 now
def lastE : Int → List TRec → Int
  | e, [] => e
  | _, r :: l => lastE r.1 l
theorem scanF_len (last : Int) (i : Nat) (l : List ByteArray) : (scanF last i l).length ≤ l.length := by
  induction l generalizing last i with
  | nil => exact Nat.le_refl _
  | cons s l ih =>
    simp only [scanF]
    split
    · have := ih (getRec s).1.1 (i + 1); simp only [List.length_cons]; omega
    · simp
theorem scanF_good (last : Int) (i : Nat) (l : List ByteArray) : ∀ r ∈ scanF last i l, RecG r := by
  induction l generalizing last i with
  | nil => intro r hr; cases hr
  | cons s l ih =>
    intro r hr
    simp only [scanF] at hr
    split at hr
    · rename_i hg
      simp only [goesOn, Bool.and_eq_true] at hg
      rcases List.mem_cons.1 hr with rfl | hr
      · exact getRec_good hg.1.1
      · exact ih _ _ r hr
    · cases hr
theorem lastE_ge (last : Int) (i : Nat) (l : List ByteArray) : last ≤ lastE last (scanF last i l) ∧ ∀ r ∈ scanF last i l, r.1 ≤ lastE last (scanF last i l) := by
  induction l generalizing last i with
  | nil => exact ⟨Int.le_refl _, fun r hr => by cases hr⟩
  | cons s l ih =>
    simp only [scanF]
    split
    · rename_i hg
      obtain ⟨h1, h2⟩ := ih (getRec s).1.1 (i + 1)
      simp only [goesOn, Bool.and_eq_true, Bool.not_eq_true', decide_eq_false_iff_not] at hg
      have h3 := hg.2
      simp only [lastE]
      refine ⟨by omega, fun r hr => ?_⟩
      rcases List.mem_cons.1 hr with rfl | hr
      · exact h1
      · exact h2 r hr
    · exact ⟨Int.le_refl _, fun r hr => by cases hr⟩
theorem scanF_app (last : Int) (i : Nat) (a b : List ByteArray) (h : (scanF last i a).length = a.length) : scanF last i (a ++ b) = scanF last i a ++ scanF (lastE last (scanF last i a)) (i + a.length) b := by
  induction a generalizing last i with
  | nil => simp [scanF, lastE]
  | cons s a ih =>
    simp only [scanF, List.cons_append] at h ⊢
    split
    · rename_i hg
      rw [if_pos hg] at h
      simp only [List.length_cons, Nat.add_right_cancel_iff] at h
      rw [ih _ _ h, List.cons_append, lastE, List.length_cons]
      congr 3
      omega
    · rename_i hg
      rw [if_neg hg] at h
      simp at h
theorem scanF_take (last : Int) (i : Nat) (l : List ByteArray) : scanF last i (l.take (scanF last i l).length) = scanF last i l := by
  induction l generalizing last i with
  | nil => rfl
  | cons s l ih =>
    simp only [scanF]
    split
    · rename_i hg
      simp only [List.length_cons, List.take_succ_cons, scanF, if_pos hg, ih]
    · rfl
end Go.Proofs.YtpdcljonclhhpaaGreat.Ev
