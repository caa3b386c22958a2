/- What the plain functions of the program and of the reference answer: laws of plain data. -/
import Derived.Test.YtehbegmomfcmhaaGreatPu
import Derived.Laws.Strings
set_option linter.unusedVariables false
set_option linter.unusedSimpArgs false
namespace Go.Proofs.YtehbegmomfcmhaaGreat.Ev

theorem w64 {n : Int} (h0 : -9223372036854775808 ≤ n) (h1 : n < 9223372036854775808) : IntKind.i64.wrap n = n := by
  simp only [IntKind.wrap, IntKind.bits, IntKind.signed, Bool.true_and]
  simp
  split <;> omega
theorem loopO_ind {α β : Type} (f : α → Option (α ⊕ β)) (μ : α → Nat) (I : α → Prop) (Q : β → Prop)
    (h : ∀ x, I x → (∃ y, f x = some (.inl y) ∧ I y ∧ μ y < μ x) ∨ ∃ z, f x = some (.inr z) ∧ Q z) : ∀ x, I x → ∃ z, loopO f x = some z ∧ Q z := by
  intro x
  generalize hn : μ x = n
  induction n using Nat.strongRecOn generalizing x with
  | ind n ih =>
    intro hx
    rw [loopO_eq]
    rcases h x hx with ⟨y, e, hy, hl⟩ | ⟨z, e, hz⟩
    · rw [e]; exact ih (μ y) (by omega) y rfl hy
    · rw [e]; exact ⟨z, rfl, hz⟩
/-- A loop that counts from 0 to n: its state at each count is known. -/
theorem loopO_count {α β : Type} (f : α → Option (α ⊕ β)) (s : Nat → α) (n : Nat) (z : β) (h : ∀ i, i < n → f (s i) = some (.inl (s (i + 1)))) (he : f (s n) = some (.inr z)) : loopO f (s 0) = some z := by
  have key : ∀ k i, i + k = n → loopO f (s i) = some z := by
    intro k
    induction k with
    | zero => intro i hi; rw [loopO_eq, show i = n by omega, he]
    | succ k ih => intro i hi; rw [loopO_eq, h i (by omega)]; exact ih (i + 1) (by omega)
  exact key n 0 (by omega)
/-- A loop that counts up and may leave at a place: what it tells is known for each. -/
theorem loopO_find {α β : Type} (f : α → Option (α ⊕ β)) (s : Nat → α) (n : Nat) (z : Nat → β) (go : Nat → Bool) (h : ∀ i, i < n → f (s i) = if go i then some (.inl (s (i + 1))) else some (.inr (z i))) (he : f (s n) = some (.inr (z n))) :
    ∃ i, i ≤ n ∧ (∀ j, j < i → go j = true) ∧ (i < n → go i = false) ∧ loopO f (s 0) = some (z i) := by
  have key : ∀ k i, i + k = n → (∀ j, j < i → go j = true) → ∃ i', i' ≤ n ∧ (∀ j, j < i' → go j = true) ∧ (i' < n → go i' = false) ∧ loopO f (s i) = some (z i') := by
    intro k
    induction k with
    | zero =>
      intro i hi hg
      obtain rfl : i = n := by omega
      exact ⟨i, Nat.le_refl _, hg, fun h => absurd h (by omega), by rw [loopO_eq, he]⟩
    | succ k ih =>
      intro i hi hg
      cases hgo : go i with
      | true =>
        obtain ⟨i', h1, h2, h3, h4⟩ := ih (i + 1) (by omega) (fun j hj => by
          by_cases h : j < i
          · exact hg j h
          · rw [show j = i by omega]; exact hgo)
        refine ⟨i', h1, h2, h3, ?_⟩
        rw [loopO_eq, h i (by omega), if_pos hgo]
        exact h4
      | false =>
        refine ⟨i, by omega, hg, fun _ => hgo, ?_⟩
        rw [loopO_eq, h i (by omega), hgo]
        rfl
  exact key n 0 (by omega) (fun j hj => by omega)
theorem bt_lo (s : ByteArray) (i : Int) : 0 ≤ bt s i := by unfold bt; omega
theorem bt_hi (s : ByteArray) (i : Int) : bt s i < 256 := by
  have := (s.data.toList.getD i.toNat 0).toNat_lt
  unfold bt; omega
theorem bt_w64 (s : ByteArray) (i : Int) : IntKind.i64.wrap (bt s i) = bt s i := w64 (by have := bt_lo s i; omega) (by have := bt_hi s i; omega)
theorem rd_nat {k : K} {xs : List k.T} {i : Nat} (h : i < xs.length) : rd k xs (i : Int) = xs[i] := by
  unfold rd
  rw [Int.toNat_natCast]
  simp [List.getD, h]
theorem rd_int {κ : IntKind} {xs : List Int} {i : Nat} (h : i < xs.length) : rd (.int κ) xs (i : Int) = xs[i] := rd_nat (k := .int κ) h
theorem rd_str {xs : List ByteArray} {i : Nat} (h : i < xs.length) : rd .str xs (i : Int) = xs[i] := rd_nat (k := .str) h
def Byt (a : List Int) : Prop := ∀ x ∈ a, 0 ≤ x ∧ x < 256
theorem dec_true {p : Prop} [Decidable p] (h : p) : decide p = true := decide_eq_true h
theorem dec_false {p : Prop} [Decidable p] (h : ¬ p) : decide p = false := decide_eq_false h


theorem loopN_congr {α β : Type} {f g : α → Option (α ⊕ β)} (I : α → Prop) (h : ∀ x, I x → f x = g x) (hI : ∀ x y, I x → f x = some (.inl y) → I y) : ∀ n x, I x → loopN f n x = loopN g n x
  | 0, _, _ => rfl
  | n + 1, x, hx => by
    simp only [loopN, ← h x hx]
    cases e : f x with
    | none => rfl
    | some v =>
      cases v with
      | inl y => exact loopN_congr I h hI n y (hI x y hx e)
      | inr z => rfl
theorem loopO_congr {α β : Type} {f g : α → Option (α ⊕ β)} (I : α → Prop) (h : ∀ x, I x → f x = g x) (hI : ∀ x y, I x → f x = some (.inl y) → I y) {x : α} (hx : I x) : loopO f x = loopO g x := by
  cases e : loopO g x with
  | some z =>
    obtain ⟨n, hn⟩ := loopO_spec e
    exact loopO_of (n := n) (by rw [loopN_congr I h hI n x hx]; exact hn)
  | none =>
    cases e' : loopO f x with
    | none => rfl
    | some z =>
      obtain ⟨n, hn⟩ := loopO_spec e'
      rw [loopN_congr I h hI n x hx] at hn
      rw [loopO_of hn] at e
      cases e
def firstN (go : Nat → Bool) : Nat → Nat → Nat
  | i, 0 => i
  | i, k + 1 => if go i then firstN go (i + 1) k else i
theorem firstN_le (go : Nat → Bool) : ∀ k i, firstN go i k ≤ i + k
  | 0, i => Nat.le_refl _
  | k + 1, i => by
    simp only [firstN]
    split
    · have := firstN_le go k (i + 1); omega
    · omega
theorem firstN_fails (go : Nat → Bool) : ∀ k i, firstN go i k < i + k → go (firstN go i k) = false
  | 0, i, h => by simp [firstN] at h
  | k + 1, i, h => by
    simp only [firstN] at h ⊢
    split
    · rename_i hg
      rw [if_pos hg] at h
      exact firstN_fails go k (i + 1) (by omega)
    · rename_i hg
      simpa using hg
theorem loopO_first {α β : Type} (f : α → Option (α ⊕ β)) (s : Nat → α) (n : Nat) (z : Nat → β) (go : Nat → Bool) (h : ∀ i, i < n → f (s i) = if go i then some (.inl (s (i + 1))) else some (.inr (z i))) (he : f (s n) = some (.inr (z n))) :
    loopO f (s 0) = some (z (firstN go 0 n)) := by
  have key : ∀ k i, i + k = n → loopO f (s i) = some (z (firstN go i k)) := by
    intro k
    induction k with
    | zero =>
      intro i hi
      obtain rfl : i = n := by omega
      rw [loopO_eq, he]
      rfl
    | succ k ih =>
      intro i hi
      rw [loopO_eq, h i (by omega)]
      simp only [firstN]
      cases go i with
      | true => simp only [if_true]; exact ih (i + 1) (by omega)
      | false => rfl
  exact key n 0 (by omega)
/-- A loop that asks each place. -/
theorem loopB (L : Int × Unit → Option ((Int × Unit) ⊕ (Bool × Unit))) (n : Nat) (hn : n ≤ maxLen) (go : Nat → Bool) (hs : ∀ i : Nat, i < n → L ((i : Int), ()) = bif go i then some (.inl (IntKind.i64.wrap ((i : Int) + 1), ())) else some (.inr (false, ())))
    (he : L ((n : Int), ()) = some (.inr (true, ()))) : loopO L (0, ()) = some ((List.range n).all go, ()) := by
  have h := loopO_first L (fun i => ((i : Int), ())) n (fun i => (decide (i = n), ())) go (fun i hi => by
    rw [hs i hi, w64 (by omega) (by simp only [maxLen] at hn; omega)]
    cases go i with
    | true => rfl
    | false => simp only [Bool.false_eq_true, if_false, cond_false]; rw [dec_false (by omega)]) (by rw [he]; simp)
  have h' : loopO L (0, ()) = some (decide (firstN go 0 n = n), ()) := h
  rw [h']
  have key : ∀ k i, decide (firstN go i k = i + k) = ((List.range k).all fun j => go (i + j)) := by
    intro k
    induction k with
    | zero => intro i; simp [firstN]
    | succ k ih =>
      intro i
      have e : ((List.range (k + 1)).all fun j => go (i + j)) = (go i && (List.range k).all fun j => go (i + 1 + j)) := by
        rw [List.range_succ_eq_map, List.all_cons, List.all_map]
        simp only [Nat.add_zero]
        congr 2
        funext j
        simp only [Function.comp]
        congr 1
        omega
      rw [e, ← ih (i + 1)]
      by_cases hg : go i = true
      · have e1 : firstN go i (k + 1) = firstN go (i + 1) k := by simp only [firstN]; rw [if_pos hg]
        rw [Bool.eq_iff_iff, hg]
        simp only [decide_eq_true_eq, Bool.true_and, e1]
        omega
      · have e1 : firstN go i (k + 1) = i := by simp only [firstN]; rw [if_neg hg]
        rw [Bool.eq_iff_iff]
        simp only [decide_eq_true_eq, Bool.and_eq_true, e1]
        constructor
        · intro h; omega
        · intro h; exact absurd h.1 hg
  have k0 := key n 0
  simp only [Nat.zero_add] at k0
  rw [k0]


theorem l1In_eq (a b c : Int) : P_s_l1In a b c = some (decide (b ≤ a ∧ a ≤ c), ()) := by
  simp only [P_s_l1In, B_s_l1In]
  by_cases h : b ≤ a <;> by_cases h2 : a ≤ c <;> simp [h, h2]
theorem inRange_eq (a b c : Int) : P_i_inRange a b c = some (decide (b ≤ a ∧ a ≤ c), ()) := l1In_eq a b c
def idCh (s : ByteArray) (i : Nat) : Bool := decide (97 ≤ bt s i ∧ bt s i ≤ 122) || decide (48 ≤ bt s i ∧ bt s i ≤ 57)
def idB (s : ByteArray) : Bool := (List.range s.size).all (idCh s) && decide (1 ≤ (s.size : Int) ∧ (s.size : Int) ≤ 8)
theorem l11Id_step (s : ByteArray) (h : s.size ≤ maxLen) (i : Nat) (hi : i < s.size) : L_s_l11Id_0 P_s_l1In s ((i : Int), ()) = if idCh s i then some (.inl (((i + 1 : Nat) : Int), ())) else some (.inr (.inr (false, ()))) := by
  have h1 : ((i : Int) < (s.size : Int)) := by omega
  have h2 : (0 : Int) ≤ (i : Int) := by omega
  simp only [L_s_l11Id_0, dec_true h1, dec_true h2, cond_true, bt_w64, l1In_eq, bindO]
  rw [w64 (by omega) (by simp only [maxLen] at h; omega)]
  unfold idCh
  cases decide (97 ≤ bt s i ∧ bt s i ≤ 122) <;> cases decide (48 ≤ bt s i ∧ bt s i ≤ 57) <;> simp
theorem idOk_step (s : ByteArray) (h : s.size ≤ maxLen) (i : Nat) (hi : i < s.size) : L_i_idOk_0 s ((i : Int), ()) = if idCh s i then some (.inl (((i + 1 : Nat) : Int), ())) else some (.inr (.inr (false, ()))) := by
  have h1 : ((i : Int) < (s.size : Int)) := by omega
  have h2 : (0 : Int) ≤ (i : Int) := by omega
  simp only [L_i_idOk_0, dec_true h1, dec_true h2, cond_true]
  rw [w64 (by omega) (by simp only [maxLen] at h; omega)]
  unfold idCh
  by_cases a : bt s i ≥ 97 <;> by_cases b : bt s i ≤ 122 <;> by_cases c : bt s i ≥ 48 <;> by_cases d : bt s i ≤ 57 <;> simp [a, b, c, d]
theorem id_of {s : ByteArray} {f : Int × Unit → Option ((Int × Unit) ⊕ (Unit ⊕ (Bool × Unit)))} (hs : ∀ i : Nat, i < s.size → f ((i : Int), ()) = if idCh s i then some (.inl (((i + 1 : Nat) : Int), ())) else some (.inr (.inr (false, ()))))
    (he : f ((s.size : Int), ()) = some (.inr (.inl ()))) (g : Unit → Option (Bool × Unit)) (hg : g () = some (decide (1 ≤ (s.size : Int) ∧ (s.size : Int) ≤ 8), ())) : bindS (loopO f (0, ())) g = some (idB s, ()) := by
  obtain ⟨i, h1, h2, h3, h4⟩ := loopO_find f (fun i => ((i : Int), ())) s.size (fun i => if i < s.size then .inr (false, ()) else .inl ()) (idCh s) (fun i hi => by
    simp only [if_pos hi]; exact hs i hi) (by simp only [Nat.lt_irrefl, if_false]; exact he)
  have h4' : loopO f (0, ()) = some (if i < s.size then .inr (false, ()) else .inl ()) := h4
  rw [h4']
  unfold idB
  by_cases hi : i < s.size
  · rw [if_pos hi]
    have : (List.range s.size).all (idCh s) = false := by
      rw [List.all_eq_false]
      exact ⟨i, List.mem_range.2 hi, by simp [h3 hi]⟩
    simp [bindS, this]
  · rw [if_neg hi]
    have : (List.range s.size).all (idCh s) = true := by
      rw [List.all_eq_true]
      intro j hj
      exact h2 j (by have := List.mem_range.1 hj; omega)
    simp only [bindS, this, hg, Bool.true_and]
theorem l11Id_eq (s : ByteArray) (h : s.size ≤ maxLen) : P_s_l11Id s = some (idB s, ()) := by
  simp only [P_s_l11Id, B_s_l11Id]
  exact id_of (l11Id_step s h) (by simp [L_s_l11Id_0]) _ (by simp only [l1In_eq, bindO])
theorem idOk_eq (s : ByteArray) (h : s.size ≤ maxLen) : P_i_idOk s = some (idB s, ()) := by
  simp only [P_i_idOk, B_i_idOk]
  exact id_of (idOk_step s h) (by simp [L_i_idOk_0]) _ (by simp only [inRange_eq, bindO])

theorem eqO_self {R : Type} (a : Option R) : eqO a a = a := by
  unfold eqO
  rw [if_pos rfl]
theorem clone_byte_eq (a : List Int) (h : a.length ≤ 140737488355328) : P_slices_Clone_byte_byte a = some (a, ()) := by
  simp only [P_slices_Clone_byte_byte, B_slices_Clone_byte_byte]
  have e : (bif decide (([] : List Int).length + a.length ≤ 9223372036854775807) then bif decide ((([] : List Int).length + a.length) * 1 ≤ 140737488355328) then some (([] ++ a), ()) else none else none) = some (a, ()) := by
    rw [dec_true (by simp; omega), dec_true (by simp; omega)]
    simp
  rw [e]
  cases a with
  | nil => simp [eqO_self]
  | cons x xs => simp

def bigAt (n : Int) (k j : Nat) : Int := IntKind.u8.wrap (n.fdiv (2 ^ (8 * (k - 1 - j))))
def big (n : Int) (k : Nat) : List Int := (List.range k).map (bigAt n k)
theorem big_len (n : Int) (k : Nat) : (big n k).length = k := by simp [big]
theorem wu64 {n : Int} (h0 : 0 ≤ n) (h1 : n < 18446744073709551616) : IntKind.u64.wrap n = n := by
  simp only [IntKind.wrap, IntKind.bits, IntKind.signed]
  simp
  omega
theorem putLoop (v : Int) (b : List Int) (k : Nat) (hk : k ≤ 8) (hb : b.length + 8 ≤ 140737488355328) : loopO (L_s_PutBig_0 (v, ())) ((k : Int) - 1, b, ()) = some (b ++ big v k, ()) := by
  have key := loopO_count (L_s_PutBig_0 (v, ())) (fun j => ((k : Int) - 1 - (j : Int), b ++ (List.range j).map (bigAt v k), ())) k (b ++ big v k, ()) (fun j hj => ?_) ?_
  · simpa using key
  · have h1 : (k : Int) - 1 - (j : Int) ≥ 0 := by omega
    have e1 : (k : Int) - 1 - (j : Int) = ((k - 1 - j : Nat) : Int) := by omega
    have hs : IntKind.u64.wrap (IntKind.i64.wrap (8 * ((k : Int) - 1 - (j : Int)))) = ((8 * (k - 1 - j) : Nat) : Int) := by
      rw [w64 (by omega) (by omega), wu64 (by omega) (by omega)]
      omega
    have hm : min (8 * (k - 1 - j)) IntKind.i64.bits = 8 * (k - 1 - j) := Nat.min_eq_left (by simp only [IntKind.bits]; omega)
    simp only [L_s_PutBig_0, dec_true h1, cond_true, hs, Int.toNat_natCast, hm]
    rw [dec_false (by omega)]
    simp only [cond_false]
    have hl : (b ++ (List.range j).map (bigAt v k)).length = b.length + j := by simp
    rw [dec_true (by rw [hl]; simp; omega), dec_true (by rw [hl]; simp; omega)]
    simp only [cond_true]
    rw [w64 (by omega) (by omega), List.range_succ, List.map_append, List.append_assoc]
    have e2 : (k : Int) - 1 - (j : Int) - 1 = (k : Int) - 1 - ((j + 1 : Nat) : Int) := by omega
    rw [e2]
    rfl
  · have h1 : ¬ ((k : Int) - 1 - (k : Int) ≥ 0) := by omega
    simp only [L_s_PutBig_0, dec_false h1, cond_false]
    rfl
def clamp (n : Int) : Int := if n < 0 then 0 else n
theorem s_PutBig_eq (b : List Int) (n : Int) (k : Nat) (h1 : 1 ≤ k) (hk : k ≤ 8) (hb : b.length + 8 ≤ 140737488355328) : P_s_PutBig b n (k : Int) = some (b ++ big (clamp n) k, ()) := by
  simp only [P_s_PutBig, B_s_PutBig]
  rw [dec_true (by simp; omega), dec_true (by simp; omega)]
  have e : (bif decide (n < 0) then some ((0 : Int), ()) else some (n, ())) = some (clamp n, ()) := by
    unfold clamp
    by_cases h : n < 0 <;> simp [h]
  simp only [cond_true, e, bindO, l1In_eq]
  rw [dec_true (by omega)]
  simp only [Bool.not_true, cond_false, List.nil_append]
  rw [w64 (by omega) (by omega)]
  exact putLoop _ b k hk hb
theorem i_putBig_eq (b : List Int) (n : Int) (k : Nat) (hk : k ≤ 8) (hb : b.length + 8 ≤ 140737488355328) : P_i_putBig b n (k : Int) = some (b ++ big (clamp n) k, ()) := by
  simp only [P_i_putBig, B_i_putBig]
  have e : L_i_putBig_0 n = L_s_PutBig_0 (clamp n, ()) := by
    funext l
    have : (bif decide (0 > n) then (0 : Int) else n) = clamp n := by
      unfold clamp
      by_cases h : n < 0 <;> simp [h]
    simp only [L_i_putBig_0, L_s_PutBig_0, this]
  rw [e, w64 (by omega) (by omega)]
  exact putLoop _ b k hk hb

theorem wI64 {n : Nat} (h : n < 9223372036854775808) : IntKind.i64.wrap (n : Int) = (n : Int) := w64 (by omega) (by omega)
theorem wU32 {n : Nat} (h : n < 4294967296) : IntKind.u32.wrap (n : Int) = (n : Int) := by
  simp only [IntKind.wrap, IntKind.bits, IntKind.signed]
  simp
  omega
theorem bits_nat {w x : Nat} (h : x < 2 ^ w) : (BitVec.ofInt w (x : Int)).toNat = x := by
  rw [BitVec.ofInt_natCast, BitVec.toNat_ofNat]
  exact Nat.mod_eq_of_lt h
theorem bXor_i64 {x y : Nat} (hx : x < 4294967296) (hy : y < 4294967296) : bXor .i64 (x : Int) (y : Int) = ((x ^^^ y : Nat) : Int) := by
  have h : x ^^^ y < 2 ^ 32 := Nat.xor_lt_two_pow (by omega) (by omega)
  unfold bXor
  rw [BitVec.toNat_xor, bits_nat (by simp only [IntKind.bits]; omega), bits_nat (by simp only [IntKind.bits]; omega)]
  exact wI64 (by omega)
theorem bXor_u32 {x y : Nat} (hx : x < 4294967296) (hy : y < 4294967296) : bXor .u32 (x : Int) (y : Int) = ((x ^^^ y : Nat) : Int) := by
  have h : x ^^^ y < 2 ^ 32 := Nat.xor_lt_two_pow (by omega) (by omega)
  unfold bXor
  rw [BitVec.toNat_xor, bits_nat (by simp only [IntKind.bits]; omega), bits_nat (by simp only [IntKind.bits]; omega)]
  exact wU32 (by omega)
theorem bAnd_i64 {x y : Nat} (hx : x < 4294967296) (hy : y < 4294967296) : bAnd .i64 (x : Int) (y : Int) = ((x &&& y : Nat) : Int) := by
  have h : x &&& y < 2 ^ 32 := Nat.and_lt_two_pow _ (by omega)
  unfold bAnd
  rw [BitVec.toNat_and, bits_nat (by simp only [IntKind.bits]; omega), bits_nat (by simp only [IntKind.bits]; omega)]
  exact wI64 (by omega)
theorem bAnd_u32 {x y : Nat} (hx : x < 4294967296) (hy : y < 4294967296) : bAnd .u32 (x : Int) (y : Int) = ((x &&& y : Nat) : Int) := by
  have h : x &&& y < 2 ^ 32 := Nat.and_lt_two_pow _ (by omega)
  unfold bAnd
  rw [BitVec.toNat_and, bits_nat (by simp only [IntKind.bits]; omega), bits_nat (by simp only [IntKind.bits]; omega)]
  exact wU32 (by omega)
def crcStep (c : Nat) : Nat := if c &&& 1 = 1 then (c / 2) ^^^ 2197175160 else c / 2
def crcN (c : Nat) : Nat → Nat
  | 0 => c
  | i + 1 => crcStep (crcN c i)
theorem crcStep_lt {c : Nat} (h : c < 4294967296) : crcStep c < 4294967296 := by
  unfold crcStep
  split
  · have : (c / 2) ^^^ 2197175160 < 2 ^ 32 := Nat.xor_lt_two_pow (by omega) (by omega)
    omega
  · omega
theorem crcN_lt {c : Nat} (h : c < 4294967296) : ∀ i, crcN c i < 4294967296
  | 0 => h
  | i + 1 => crcStep_lt (crcN_lt h i)
theorem half (c : Nat) : ((c : Int)).fdiv 2 = ((c / 2 : Nat) : Int) := by
  rw [Int.fdiv_eq_ediv_of_nonneg _ (by omega)]
  omega
def crcL (a : List Int) : Nat := a.foldl (fun c x => crcN (c ^^^ x.toNat) 8) 4294967295
theorem crcF_lt (a : List Int) (ha : Byt a) : ∀ c, c < 4294967296 → a.foldl (fun c x => crcN (c ^^^ x.toNat) 8) c < 4294967296 := by
  induction a with
  | nil => intro c h; exact h
  | cons x a ih =>
    intro c h
    have hx := ha x (by simp)
    refine ih (fun y hy => ha y (by simp [hy])) _ (crcN_lt ?_ 8)
    have : c ^^^ x.toNat < 2 ^ 32 := Nat.xor_lt_two_pow (by omega) (by omega)
    omega
theorem byt_take {a : List Int} (h : Byt a) (i : Nat) : Byt (a.take i) := fun x hx => h x (List.mem_of_mem_take hx)
theorem crcL_lt {a : List Int} (h : Byt a) : crcL a < 4294967296 := crcF_lt a h _ (by omega)
theorem crcL_take {a : List Int} {i : Nat} (hi : i < a.length) : crcL (a.take (i + 1)) = crcN (crcL (a.take i) ^^^ a[i].toNat) 8 := by
  unfold crcL
  rw [List.take_succ_eq_append_getElem hi, List.foldl_append]
  rfl
theorem s_inner (l0 : Int × Int × Unit) (c : Nat) (h : c < 4294967296) : loopO (L_s_Crc_0 l0) ((c : Int), 0, ()) = some (.inl ((crcN c 8 : Int), IntKind.i64.wrap (l0.2.1 + 1), ())) := by
  refine loopO_count (L_s_Crc_0 l0) (fun i => ((crcN c i : Int), (i : Int), ())) 8 _ (fun i hi => ?_) ?_
  · have hl := crcN_lt h i
    have h1 : (i : Int) < 8 := by omega
    simp only [L_s_Crc_0, dec_true h1, cond_true, half]
    rw [show (1 : Int) = ((1 : Nat) : Int) from rfl, bAnd_i64 hl (by omega), show (2197175160 : Int) = ((2197175160 : Nat) : Int) from rfl, bXor_i64 (by omega) (by omega)]
    rw [show ((i : Int) + ((1 : Nat) : Int)) = ((i + 1 : Nat) : Int) by omega, wI64 (by omega)]
    simp only [crcN, crcStep]
    by_cases hb : crcN c i &&& 1 = 1
    · rw [dec_true (by rw [hb]), if_pos hb]; rfl
    · rw [dec_false (by omega), if_neg hb]; rfl
  · rfl
theorem s_Crc_eq (a : List Int) (ha : Byt a) (h : a.length ≤ maxLen) : P_s_Crc a = some (((crcL a ^^^ 4294967295 : Nat) : Int), ()) := by
  simp only [P_s_Crc, B_s_Crc]
  have key := loopO_count (L_s_Crc_1 a) (fun i => ((crcL (a.take i) : Int), (i : Int), ())) a.length ((crcL a : Int), ()) (fun i hi => ?_) ?_
  · have e : loopO (L_s_Crc_1 a) (4294967295, 0, ()) = some ((crcL a : Int), ()) := key
    rw [e]
    simp only [bindO]
    rw [show (4294967295 : Int) = ((4294967295 : Nat) : Int) from rfl, bXor_i64 (crcL_lt ha) (by omega)]
  · have h1 : ((i : Int) < (a.length : Int)) := by omega
    have h2 : (0 : Int) ≤ (i : Int) := by omega
    have hx := ha a[i] (List.getElem_mem hi)
    have hc := crcL_lt (byt_take ha i)
    simp only [L_s_Crc_1, dec_true h1, dec_true h2, cond_true, rd_int hi]
    have hxor : crcL (a.take i) ^^^ a[i].toNat < 2 ^ 32 := Nat.xor_lt_two_pow (by omega) (by omega)
    rw [w64 (by omega) (by omega), show a[i] = ((a[i].toNat : Nat) : Int) by omega, bXor_i64 hc (by omega)]
    rw [s_inner _ _ (by omega)]
    simp only
    rw [show ((i : Int) + 1) = ((i + 1 : Nat) : Int) by omega, wI64 (by simp only [maxLen] at h; omega), crcL_take hi]
  · simp [L_s_Crc_1]
theorem i_inner (l0 : Int × Int × Unit) (c : Nat) (h : c < 4294967296) : loopO (L_i_Crc_0 l0) ((c : Int), 0, ()) = some (.inl ((crcN c 8 : Int), IntKind.i64.wrap (l0.2.1 + 1), ())) := by
  refine loopO_count (L_i_Crc_0 l0) (fun i => ((crcN c i : Int), (i : Int), ())) 8 _ (fun i hi => ?_) ?_
  · have hl := crcN_lt h i
    have h1 : (i : Int) < 8 := by omega
    simp only [L_i_Crc_0, dec_true h1, cond_true, half]
    rw [show (1 : Int) = ((1 : Nat) : Int) from rfl, bAnd_u32 hl (by omega), show (2197175160 : Int) = ((2197175160 : Nat) : Int) from rfl, bXor_u32 (by omega) (by omega)]
    rw [show ((i : Int) + ((1 : Nat) : Int)) = ((i + 1 : Nat) : Int) by omega, wI64 (by omega)]
    simp only [crcN, crcStep]
    by_cases hb : crcN c i &&& 1 = 1
    · rw [dec_true (by rw [hb]), if_pos hb]; rfl
    · rw [dec_false (by omega), if_neg hb]; rfl
  · rfl
theorem i_Crc_eq (a : List Int) (ha : Byt a) (h : a.length ≤ maxLen) : P_i_Crc a = some (((crcL a ^^^ 4294967295 : Nat) : Int), ()) := by
  simp only [P_i_Crc, B_i_Crc]
  have key := loopO_count (L_i_Crc_1 a) (fun i => ((crcL (a.take i) : Int), (i : Int), ())) a.length ((crcL a : Int), ()) (fun i hi => ?_) ?_
  · have e : loopO (L_i_Crc_1 a) (4294967295, 0, ()) = some ((crcL a : Int), ()) := key
    rw [e]
    simp only [bindO]
    have hm : IntKind.u32.max = ((4294967295 : Nat) : Int) := rfl
    have hxor : crcL a ^^^ 4294967295 < 2 ^ 32 := Nat.xor_lt_two_pow (by have := crcL_lt ha; omega) (by omega)
    rw [hm, bXor_u32 (by omega) (crcL_lt ha), Nat.xor_comm, wI64 (by omega)]
  · have h1 : ((i : Int) < (a.length : Int)) := by omega
    have h2 : (0 : Int) ≤ (i : Int) := by omega
    have hx := ha a[i] (List.getElem_mem hi)
    have hc := crcL_lt (byt_take ha i)
    simp only [L_i_Crc_1, dec_true h1, dec_true h2, cond_true, rd_int hi]
    have hxor : crcL (a.take i) ^^^ a[i].toNat < 2 ^ 32 := Nat.xor_lt_two_pow (by omega) (by omega)
    rw [show a[i] = ((a[i].toNat : Nat) : Int) by omega, wU32 (by omega), bXor_u32 hc (by omega)]
    rw [i_inner _ _ (by omega)]
    simp only
    rw [show ((i : Int) + 1) = ((i + 1 : Nat) : Int) by omega, wI64 (by simp only [maxLen] at h; omega), crcL_take hi]
  · simp [L_i_Crc_1]


abbrev Resp := Int × Int
def respOkB (r : Resp) : Bool := decide (100 ≤ r.1 ∧ r.1 ≤ 599) && decide (-1 ≤ r.2 ∧ r.2 ≤ 1000000000)
theorem s_RespOk_eq (r : Resp) : P_s_RespOk r = some (respOkB r, ()) := by
  simp only [P_s_RespOk, B_s_RespOk, l1In_eq, bindO, respOkB]
  cases decide (100 ≤ r.1 ∧ r.1 ≤ 599) <;> simp
theorem i_RespOk_eq (r : Resp) : P_i_RespOk r = some (respOkB r, ()) := by
  simp only [P_i_RespOk, B_i_RespOk, inRange_eq, bindO, respOkB]
  cases decide (100 ≤ r.1 ∧ r.1 ≤ 599) <;> simp

/-- Where an upload of a name is. -/
def upIx (us : List TUp) (id : ByteArray) : Nat := firstN (fun i => !((rd kUp us (i : Int)).1.toList == id.toList)) 0 us.length
theorem l14At_eq (us : List TUp) (id : ByteArray) (h : us.length ≤ maxLen) : P_s_l14At us id = some (if upIx us id < us.length then (upIx us id : Int) else -1, ()) := by
  simp only [P_s_l14At, B_s_l14At]
  refine loopO_first (L_s_l14At_0 us id) (fun i => ((i : Int), ())) us.length (fun i => (if i < us.length then (i : Int) else -1, ())) (fun i => !((rd kUp us (i : Int)).1.toList == id.toList)) (fun i hi => ?_) ?_
  · have h1 : ((i : Int) < (us.length : Int)) := by omega
    have h2 : (0 : Int) ≤ (i : Int) := by omega
    simp only [L_s_l14At_0, dec_true h1, dec_true h2, cond_true, if_pos hi]
    rw [w64 (by omega) (by simp only [maxLen] at h; omega)]
    cases ((rd kUp us (i : Int)).1.toList == id.toList) <;> simp
  · simp [L_s_l14At_0]

theorem u8_inj {x y : Int} (hx : 0 ≤ x ∧ x < 256) (hy : 0 ≤ y ∧ y < 256) (h : UInt8.ofNat x.toNat = UInt8.ofNat y.toNat) : x = y := by
  have := congrArg UInt8.toNat h
  simp only [UInt8.toNat_ofNat'] at this
  omega


theorem bOr_i64 {x y : Nat} (hx : x < 9223372036854775808) (hy : y < 9223372036854775808) : bOr .i64 (x : Int) (y : Int) = ((x ||| y : Nat) : Int) := by
  have h : x ||| y < 2 ^ 63 := Nat.or_lt_two_pow (by omega) (by omega)
  unfold bOr
  rw [BitVec.toNat_or, bits_nat (by simp only [IntKind.bits]; omega), bits_nat (by simp only [IntKind.bits]; omega)]
  exact wI64 (by omega)
/-- The number that k bytes from a place on are. -/
def bigN (b : List Int) (at_ : Nat) : Nat → Nat
  | 0 => 0
  | j + 1 => (bigN b at_ j * 256) ||| (b.getD (at_ + j) 0).toNat
theorem byt_getD {b : List Int} (hb : Byt b) (i : Nat) : 0 ≤ b.getD i 0 ∧ b.getD i 0 < 256 := by
  by_cases h : i < b.length
  · simp only [List.getD, List.getElem?_eq_getElem h, Option.getD_some]
    exact hb _ (List.getElem_mem h)
  · simp only [List.getD, List.getElem?_eq_none (show b.length ≤ i by omega), Option.getD_none]
    omega
theorem bigN_lt {b : List Int} (hb : Byt b) (at_ : Nat) : ∀ j, bigN b at_ j < 2 ^ (8 * j)
  | 0 => by simp [bigN]
  | j + 1 => by
    have h1 := bigN_lt hb at_ j
    have h2 := byt_getD hb (at_ + j)
    have e : 2 ^ (8 * (j + 1)) = 2 ^ (8 * j) * 256 := by rw [show 8 * (j + 1) = 8 * j + 8 by omega, Nat.pow_add]
    refine Nat.or_lt_two_pow ?_ ?_
    · rw [e]; exact Nat.mul_lt_mul_of_pos_right h1 (by omega)
    · have : 1 ≤ 2 ^ (8 * j) := Nat.one_le_two_pow
      rw [e]; omega
theorem big_step {b : List Int} (hb : Byt b) (at_ j : Nat) (hj : j < 7) (x : Int) (hx : x = b.getD (at_ + j) 0) : bOr .i64 (IntKind.i64.wrap (((bigN b at_ j : Nat) : Int) * 256)) (IntKind.i64.wrap x) = ((bigN b at_ (j + 1) : Nat) : Int) := by
  have h1 := bigN_lt hb at_ j
  have h2 := byt_getD hb (at_ + j)
  have h3 : 2 ^ (8 * j) ≤ 2 ^ 48 := Nat.pow_le_pow_right (by omega) (by omega)
  subst hx
  rw [show ((bigN b at_ j : Nat) : Int) * 256 = ((bigN b at_ j * 256 : Nat) : Int) by omega, wI64 (by omega), show b.getD (at_ + j) 0 = (((b.getD (at_ + j) 0).toNat : Nat) : Int) by omega, wI64 (by omega), bOr_i64 (by omega) (by omega)]
  simp only [bigN, Int.toNat_natCast]
def getBig (b : List Int) (a : Int) (k : Nat) : Int × Bool × Unit := if 0 ≤ a ∧ a ≤ (b.length : Int) - k then ((bigN b a.toNat k : Int), true, ()) else (0, false, ())
theorem s_GetBig_eq (b : List Int) (hb : Byt b) (h : b.length ≤ 1048576) (a : Int) (k : Nat) (hk : 1 ≤ k ∧ k ≤ 7) : P_s_GetBig b a (k : Int) = some (getBig b a k) := by
  simp only [P_s_GetBig, B_s_GetBig, l1In_eq, bindO, getBig]
  rw [dec_true (show (1 : Int) ≤ (k : Int) ∧ (k : Int) ≤ 7 by omega), w64 (by omega) (by omega)]
  simp only [Bool.not_true, cond_false]
  by_cases h1 : a < 0
  · rw [dec_true h1, if_neg (by omega)]; rfl
  rw [dec_false h1]
  by_cases h2 : a > (b.length : Int) - k
  · rw [dec_true h2, if_neg (by omega)]; rfl
  rw [dec_false h2, if_pos (by omega)]
  simp only [cond_false, bindS]
  have key := loopO_count (L_s_GetBig_0 (k : Int) a b) (fun j => ((bigN b a.toNat j : Int), (j : Int), ())) k ((bigN b a.toNat k : Int), ()) (fun j hj => ?_) ?_
  · have e : loopO (L_s_GetBig_0 (k : Int) a b) (0, 0, ()) = _ := key
    rw [e]
  · have g1 : (j : Int) < (k : Int) := by omega
    simp only [L_s_GetBig_0, dec_true g1, cond_true]
    rw [w64 (n := a + (j : Int)) (by omega) (by omega)]
    have g2 : 0 ≤ a + (j : Int) := by omega
    have g3 : a + (j : Int) < (b.length : Int) := by omega
    rw [dec_true g2, dec_true g3]
    simp only [cond_true]
    rw [big_step hb a.toNat j (by omega) _ (by
      rw [show a + (j : Int) = ((a.toNat + j : Nat) : Int) by omega, rd_int (by omega)]
      simp [List.getD, show a.toNat + j < b.length by omega]), show (j : Int) + 1 = ((j + 1 : Nat) : Int) by omega, wI64 (by omega)]
  · simp [L_s_GetBig_0]
theorem i_GetBig_eq (b : List Int) (hb : Byt b) (h : b.length ≤ 1048576) (a : Int) (k : Nat) (hk : 1 ≤ k ∧ k ≤ 7) : P_i_GetBig b a (k : Int) = some (getBig b a k) := by
  simp only [P_i_GetBig, B_i_GetBig, inRange_eq, bindO, getBig]
  rw [dec_true (show (1 : Int) ≤ (k : Int) ∧ (k : Int) ≤ 7 by omega), w64 (n := (b.length : Int) - (k : Int)) (by omega) (by omega)]
  simp only [Bool.not_true, cond_false]
  by_cases h1 : a < 0
  · rw [dec_true h1, if_neg (by omega)]; rfl
  rw [dec_false h1]
  by_cases h2 : a > (b.length : Int) - k
  · rw [dec_true h2, if_neg (by omega)]; rfl
  rw [dec_false h2, if_pos (by omega)]
  simp only [cond_false, bindS]
  rw [w64 (n := a + (k : Int)) (by omega) (by omega), dec_true (show 0 ≤ a by omega), dec_true (show a ≤ a + (k : Int) by omega), dec_true (show a + (k : Int) ≤ (b.length : Int) by omega)]
  simp only [cond_true]
  have hlen : ((b.take (a + (k : Int)).toNat).drop a.toNat).length = k := by simp; omega
  have key := loopO_count (L_i_GetBig_0 b a (k : Int)) (fun j => ((bigN b a.toNat j : Int), (j : Int), ())) k ((bigN b a.toNat k : Int), ()) (fun j hj => ?_) ?_
  · have e : loopO (L_i_GetBig_0 b a (k : Int)) (0, 0, ()) = _ := key
    rw [e]
  · have g1 : (j : Int) < (k : Int) := by omega
    have g2 : (0 : Int) ≤ (j : Int) := by omega
    simp only [L_i_GetBig_0]
    rw [w64 (n := a + (k : Int)) (by omega) (by omega)]
    simp only [hlen, dec_true g1, dec_true g2, cond_true]
    rw [big_step hb a.toNat j (by omega) _ (by
      rw [rd_int (by rw [hlen]; exact hj)]
      simp [List.getD, show a.toNat + j < b.length by omega]), show (j : Int) + 1 = ((j + 1 : Nat) : Int) by omega, wI64 (by omega)]
  · simp only [L_i_GetBig_0]
    rw [w64 (n := a + (k : Int)) (by omega) (by omega)]
    simp [hlen]

theorem loopO_end {α β : Type} {f : α → Option (α ⊕ β)} {x : α} {z : β} (h : f x = some (.inr z)) : loopO f x = some z := by rw [loopO_eq, h]
theorem strOf_size (xs : List Int) : (strOf xs).size = xs.length := strOfNums_size xs

theorem bAnd_255 (x : Int) : 0 ≤ bAnd .i64 x 255 ∧ bAnd .i64 x 255 ≤ 255 := by
  unfold bAnd
  have h : (BitVec.ofInt IntKind.i64.bits x &&& BitVec.ofInt IntKind.i64.bits 255).toNat ≤ 255 := by
    rw [BitVec.toNat_and]
    have : (BitVec.ofInt IntKind.i64.bits (255 : Int)).toNat = 255 := bits_nat (w := 64) (x := 255) (by omega)
    rw [this]
    exact Nat.and_le_right
  rw [wI64 (by omega)]
  omega
/-- A cursor that draws. -/
def Cur (c : TL1Cur) : Prop := List.length c.1 ≤ 1048576 ∧ 0 ≤ c.2.1 ∧ c.2.1 ≤ 1048576
theorem l1Byte_ok (c : TL1Cur) (h : Cur c) : ∃ r c', P_s_l1Byte c = some (r, c', ()) ∧ Cur c' ∧ 0 ≤ r ∧ r ≤ 255 := by
  obtain ⟨h1, h2, h3⟩ := h
  simp only [P_s_l1Byte, B_s_l1Byte]
  by_cases hi : c.2.1 < (List.length c.1 : Int)
  · simp only [dec_true hi, dec_true h2, cond_true]
    refine ⟨_, _, rfl, ⟨h1, ?_, ?_⟩, bAnd_255 _⟩
    · simp only; rw [w64 (by omega) (by omega)]; omega
    · simp only; rw [w64 (by omega) (by omega)]; omega
  · simp only [dec_false hi, cond_false]
    exact ⟨_, _, rfl, ⟨h1, h2, h3⟩, bAnd_255 _⟩
theorem l1Below_ok (c : TL1Cur) (n : Int) (h : Cur c) (hn : 0 < n ∧ n < 9223372036854775808) : ∃ r c', P_s_l1Below c n = some (r, c', ()) ∧ Cur c' ∧ 0 ≤ r ∧ r < n := by
  simp only [P_s_l1Below, B_s_l1Below]
  rw [dec_false (show ¬ n ≤ 0 by omega)]
  have hz : (n == 0) = false := by simp; omega
  simp only [cond_false, hz]
  by_cases h1 : n ≤ 256
  · rw [dec_true h1]
    obtain ⟨r, c', e, hc, hr⟩ := l1Byte_ok c h
    simp only [cond_true, e, bindO]
    refine ⟨_, _, rfl, hc, ?_⟩
    rw [Int.tmod_eq_emod_of_nonneg hr.1]
    exact ⟨Int.emod_nonneg _ (by omega), Int.emod_lt_of_pos _ (by omega)⟩
  · rw [dec_false h1]
    obtain ⟨r1, c1, e1, hc1, hr1⟩ := l1Byte_ok c h
    obtain ⟨r2, c2, e2, hc2, hr2⟩ := l1Byte_ok c1 hc1
    obtain ⟨r3, c3, e3, hc3, hr3⟩ := l1Byte_ok c2 hc2
    simp only [cond_false, e1, e2, e3, bindO]
    refine ⟨_, _, rfl, hc3, ?_⟩
    rw [w64 (n := r1 * 65536) (by omega) (by omega), w64 (n := r2 * 256) (by omega) (by omega), w64 (n := r1 * 65536 + r2 * 256) (by omega) (by omega), w64 (n := r1 * 65536 + r2 * 256 + r3) (by omega) (by omega)]
    rw [Int.tmod_eq_emod_of_nonneg (by omega)]
    exact ⟨Int.emod_nonneg _ (by omega), Int.emod_lt_of_pos _ (by omega)⟩
theorem l1Str_ok (c : TL1Cur) (xs : List ByteArray) (h : Cur c) (hx : 0 < xs.length ∧ xs.length ≤ 1048576) : ∃ s c', P_s_l1Str c xs = some (s, c', ()) ∧ Cur c' ∧ s ∈ xs := by
  obtain ⟨r, c', e, hc, h0, h1⟩ := l1Below_ok c (xs.length : Int) h (by omega)
  simp only [P_s_l1Str, B_s_l1Str, e, bindO, dec_true h0, dec_true h1, cond_true]
  refine ⟨_, _, rfl, hc, ?_⟩
  obtain ⟨n, rfl⟩ : ∃ n : Nat, r = (n : Int) := ⟨r.toNat, by omega⟩
  rw [rd_str (by omega)]
  exact List.getElem_mem _
theorem l1Int_ok (c : TL1Cur) (xs : List Int) (h : Cur c) (hx : 0 < xs.length ∧ xs.length ≤ 1048576) : ∃ s c', P_s_l1Int c xs = some (s, c', ()) ∧ Cur c' ∧ s ∈ xs := by
  obtain ⟨r, c', e, hc, h0, h1⟩ := l1Below_ok c (xs.length : Int) h (by omega)
  simp only [P_s_l1Int, B_s_l1Int, e, bindO, dec_true h0, dec_true h1, cond_true]
  refine ⟨_, _, rfl, hc, ?_⟩
  obtain ⟨n, rfl⟩ : ∃ n : Nat, r = (n : Int) := ⟨r.toNat, by omega⟩
  rw [rd_int (by omega)]
  exact List.getElem_mem _
theorem wrap_u8 (x : Int) : 0 ≤ IntKind.u8.wrap x ∧ IntKind.u8.wrap x < 256 := by
  simp only [IntKind.wrap, IntKind.bits, IntKind.signed]
  simp
  omega
theorem l1Bytes_ok (c : TL1Cur) (n : Int) (h : Cur c) (hn : 0 ≤ n ∧ n ≤ 1048576) : ∃ b c', P_s_l1Bytes_r0_0 c n = some (b, c', ()) ∧ Cur c' ∧ (List.length b : Int) = n ∧ Byt b := by
  simp only [P_s_l1Bytes_r0_0, B_s_l1Bytes_r0_0]
  obtain ⟨z, e, hz⟩ := loopO_ind (L_s_l1Bytes_r0_0_0 P_s_l1Byte n) (fun l => (n - l.1).toNat) (fun l => 0 ≤ l.1 ∧ l.1 ≤ n ∧ Cur (l.2.1, l.2.2.1, l.2.2.2.1) ∧ (List.length l.2.2.2.2.1 : Int) = l.1 ∧ Byt l.2.2.2.2.1)
    (fun z => Cur z.2.1 ∧ (List.length z.1 : Int) = n ∧ Byt z.1) (fun l hl => by
      obtain ⟨h0, h1, hc, hlen, hb⟩ := hl
      simp only [L_s_l1Bytes_r0_0_0]
      by_cases hi : l.1 < n
      · obtain ⟨r, c', e, hc', hr⟩ := l1Byte_ok _ hc
        refine .inl ⟨(l.1 + 1, c'.1, c'.2.1, c'.2.2, l.2.2.2.2.1 ++ [IntKind.u8.wrap r], ()), ?_, ⟨by simp only; omega, by simp only; omega, hc', by simp; omega, ?_⟩, by simp only; omega⟩
        · rw [dec_true hi, e]
          simp only [cond_true, bindO]
          rw [dec_true (by simp; omega), dec_true (by simp; omega), w64 (by omega) (by omega)]
          rfl
        · intro x hx
          rcases List.mem_append.1 hx with hx | hx
          · exact hb x hx
          · rw [List.mem_singleton.1 hx]; exact wrap_u8 _
      · rw [dec_false hi]
        exact .inr ⟨_, rfl, hc, by simp only; omega, hb⟩) (0, c.1, c.2.1, c.2.2, [], ()) ⟨by simp, hn.1, h, by simp, fun x hx => by cases hx⟩
  exact ⟨z.1, z.2.1, e, hz⟩
theorem l1New_ok (a : List Int) (h : a.length ≤ 1048576) : ∃ c, P_s_l1New a = some (c, ()) ∧ Cur c := by
  simp only [P_s_l1New, B_s_l1New]
  obtain ⟨z, e, _⟩ := loopO_ind (L_s_l1New_0 a) (fun l => ((a.length : Int) - l.2.1).toNat) (fun l => 0 ≤ l.2.1) (fun _ => True) (fun l hl => by
    simp only [L_s_l1New_0]
    by_cases hi : l.2.1 < (a.length : Int)
    · by_cases h4 : l.2.1 < 4000
      · rw [dec_true hi, dec_true h4]
        simp only [cond_true, bindS]
        rw [dec_true hl, w64 (n := l.2.1 + 1) (by omega) (by omega)]
        exact .inl ⟨_, rfl, by simp only; omega, by simp only; omega⟩
      · rw [dec_true hi, dec_false h4]
        exact .inr ⟨_, rfl, trivial⟩
    · rw [dec_false hi]
      exact .inr ⟨_, rfl, trivial⟩) (IntKind.i64.wrap (369369 + (a.length : Int)), 0, ()) (by simp)
  rw [e]
  exact ⟨_, rfl, h, by simp, by simp⟩

def recOkB (r : TRec) : Bool :=
  decide (0 ≤ r.1 ∧ r.1 ≤ 10000) && decide (0 ≤ r.2.1 ∧ r.2.1 ≤ 199) && idB r.2.2.2.1 &&
  (if r.2.2.1 = 1 then decide (0 ≤ r.2.2.2.2.1 ∧ r.2.2.2.2.1 ≤ 1000000000) && decide ((List.length r.2.2.2.2.2 : Int) = 0)
   else if r.2.2.1 = 2 then decide (0 ≤ r.2.2.2.2.1 ∧ r.2.2.2.2.1 ≤ 1000000000) && decide (1 ≤ (List.length r.2.2.2.2.2 : Int) ∧ (List.length r.2.2.2.2.2 : Int) ≤ 24)
   else if r.2.2.1 = 3 ∨ r.2.2.1 = 4 then decide (r.2.2.2.2.1 = 0) && decide ((List.length r.2.2.2.2.2 : Int) = 0) else false)
theorem s_RecOk_eq (r : TRec) (h : r.2.2.2.1.size ≤ maxLen) : P_s_RecOk r = some (recOkB r, ()) := by
  simp only [P_s_RecOk, B_s_RecOk, l11Id_eq _ h, l1In_eq, bindO, recOkB]
  cases decide (0 ≤ r.1 ∧ r.1 ≤ 10000)
  · rfl
  cases decide (0 ≤ r.2.1 ∧ r.2.1 ≤ 199)
  · rfl
  cases idB r.2.2.2.1
  · rfl
  simp only [Bool.not_true, cond_false, bindS, Bool.true_and]
  by_cases h1 : r.2.2.1 = 1
  · rw [dec_true h1, if_pos h1]
    cases decide (0 ≤ r.2.2.2.2.1 ∧ r.2.2.2.2.1 ≤ 1000000000) <;> rfl
  rw [dec_false h1, if_neg h1]
  by_cases h2 : r.2.2.1 = 2
  · rw [dec_true h2, if_pos h2]
    cases decide (0 ≤ r.2.2.2.2.1 ∧ r.2.2.2.2.1 ≤ 1000000000) <;> rfl
  rw [dec_false h2, if_neg h2]
  by_cases h3 : r.2.2.1 = 3
  · rw [dec_true h3, if_pos (.inl h3)]
    cases decide (r.2.2.2.2.1 = 0) <;> rfl
  rw [dec_false h3]
  by_cases h4 : r.2.2.1 = 4
  · rw [dec_true h4, if_pos (.inr h4)]
    cases decide (r.2.2.2.2.1 = 0) <;> rfl
  rw [dec_false h4, if_neg (by omega)]
  rfl
theorem i_RecOk_eq (r : TRec) (h : r.2.2.2.1.size ≤ maxLen) : P_i_RecOk r = some (recOkB r, ()) := by
  simp only [P_i_RecOk, B_i_RecOk, P_i_isEpoch, B_i_isEpoch, idOk_eq _ h, inRange_eq, bindO, recOkB]
  cases decide (0 ≤ r.1 ∧ r.1 ≤ 10000)
  · rfl
  cases decide (0 ≤ r.2.1 ∧ r.2.1 ≤ 199)
  · rfl
  by_cases hk : 1 ≤ r.2.2.1 ∧ r.2.2.1 ≤ 4
  · rw [dec_true hk]
    cases idB r.2.2.2.1
    · rfl
    simp only [Bool.not_true, cond_false, bindS, Bool.true_and]
    by_cases h1 : r.2.2.1 = 1
    · rw [dec_true h1, if_pos h1]
      cases decide (0 ≤ r.2.2.2.2.1 ∧ r.2.2.2.2.1 ≤ 1000000000) <;> rfl
    rw [dec_false h1, if_neg h1]
    by_cases h2 : r.2.2.1 = 2
    · rw [dec_true h2, if_pos h2]
      cases decide (0 ≤ r.2.2.2.2.1 ∧ r.2.2.2.2.1 ≤ 1000000000) <;> rfl
    rw [dec_false h2, if_neg h2, if_pos (by omega)]
    cases decide (r.2.2.2.2.1 = 0) <;> rfl
  · rw [dec_false hk, if_neg (by omega), if_neg (by omega), if_neg (by omega)]
    cases idB r.2.2.2.1 <;> rfl
theorem recOk_bnd {r : TRec} (h : recOkB r = true) : 0 ≤ r.1 ∧ r.1 ≤ 10000 ∧ 1 ≤ r.2.2.1 ∧ r.2.2.1 ≤ 4 ∧ r.2.2.2.1.size ≤ 8 ∧ 0 ≤ r.2.2.2.2.1 ∧ r.2.2.2.2.1 ≤ 1000000000 ∧ List.length r.2.2.2.2.2 ≤ 24 := by
  simp only [recOkB, idB, Bool.and_eq_true, decide_eq_true_eq] at h
  obtain ⟨⟨⟨h1, h2⟩, h3, h4⟩, h5⟩ := h
  split at h5
  · simp only [Bool.and_eq_true, decide_eq_true_eq] at h5; omega
  · split at h5
    · simp only [Bool.and_eq_true, decide_eq_true_eq] at h5; omega
    · split at h5
      · simp only [Bool.and_eq_true, decide_eq_true_eq] at h5; omega
      · cases h5
theorem byt_app {a b : List Int} (ha : Byt a) (hb : Byt b) : Byt (a ++ b) := fun x hx => (List.mem_append.1 hx).elim (ha x) (hb x)
theorem byt_big (n : Int) (k : Nat) : Byt (big n k) := by
  intro x hx
  obtain ⟨j, _, rfl⟩ := List.mem_map.1 hx
  exact wrap_u8 _
theorem byt_bytesOf (s : ByteArray) : Byt (bytesOf s) := by
  intro x hx
  obtain ⟨b, _, rfl⟩ := List.mem_map.1 hx
  have := b.toNat_lt
  omega
theorem byt_nil : Byt [] := fun x hx => by cases hx
theorem byt_drop {a : List Int} (h : Byt a) (i : Nat) : Byt (a.drop i) := fun x hx => h x (List.mem_of_mem_drop hx)
/-- A record's bytes, ahead of its sum. -/
def recB (r : TRec) : List Int :=
  big (clamp r.1) 3 ++ big (clamp r.2.1) 2 ++ big (clamp r.2.2.1) 1 ++ big (clamp (r.2.2.2.1.size : Int)) 1 ++ bytesOf r.2.2.2.1 ++ big (clamp r.2.2.2.2.1) 4 ++ big (clamp (List.length r.2.2.2.2.2 : Int)) 1 ++ r.2.2.2.2.2
def crcI (b : List Int) : Int := ((crcL b ^^^ 4294967295 : Nat) : Int)
def putRec (r : TRec) : ByteArray := strOf (recB r ++ big (clamp (crcI (recB r))) 4)
theorem recB_len (r : TRec) : (recB r).length = 12 + r.2.2.2.1.size + List.length r.2.2.2.2.2 := by
  simp only [recB, List.length_append, big_len, bytesOf_length]
  omega
theorem recB_byt (r : TRec) (h : Byt r.2.2.2.2.2) : Byt (recB r) := by
  unfold recB
  repeat' first | apply byt_app | apply byt_big | apply byt_bytesOf | exact h
theorem s_l13Put_eq (r : TRec) (h1 : r.2.2.2.1.size ≤ 10000000) (h2 : List.length r.2.2.2.2.2 ≤ 10000000) (hb : Byt r.2.2.2.2.2) : P_s_l13Put r = some (putRec r, ()) := by
  have hlen := recB_len r
  simp only [P_s_l13Put, B_s_l13Put]
  rw [show (3 : Int) = ((3 : Nat) : Int) from rfl, s_PutBig_eq [] _ 3 (by omega) (by omega) (by simp)]
  simp only [bindO, List.nil_append]
  rw [show (2 : Int) = ((2 : Nat) : Int) from rfl, s_PutBig_eq _ _ 2 (by omega) (by omega) (by simp [big_len])]
  simp only
  rw [show (1 : Int) = ((1 : Nat) : Int) from rfl, s_PutBig_eq _ _ 1 (by omega) (by omega) (by simp [big_len])]
  simp only
  rw [s_PutBig_eq _ _ 1 (by omega) (by omega) (by simp [big_len])]
  simp only
  rw [dec_true (by simp [big_len]; omega)]
  simp only [cond_true]
  rw [show (4 : Int) = ((4 : Nat) : Int) from rfl, s_PutBig_eq _ _ 4 (by omega) (by omega) (by simp [big_len, bytesOf_length]; omega)]
  simp only
  rw [s_PutBig_eq _ _ 1 (by omega) (by omega) (by simp [big_len, bytesOf_length]; omega)]
  simp only
  rw [dec_true (by simp [big_len, bytesOf_length]; omega), dec_true (by simp [big_len, bytesOf_length]; omega)]
  simp only [cond_true]
  have e : big (clamp r.1) 3 ++ big (clamp r.2.1) 2 ++ big (clamp r.2.2.1) 1 ++ big (clamp (r.2.2.2.1.size : Int)) 1 ++ bytesOf r.2.2.2.1 ++ big (clamp r.2.2.2.2.1) 4 ++ big (clamp (List.length r.2.2.2.2.2 : Int)) 1 ++ r.2.2.2.2.2 = recB r := rfl
  rw [e, s_Crc_eq _ (recB_byt r hb) (by rw [hlen]; simp only [maxLen]; omega)]
  simp only
  rw [s_PutBig_eq _ _ 4 (by omega) (by omega) (by rw [hlen]; omega)]
  rfl
theorem big_one (n : Int) : big n 1 = [IntKind.u8.wrap n] := by
  simp [big, bigAt]
theorem clamp_nn {n : Int} (h : 0 ≤ n) : clamp n = n := by unfold clamp; rw [if_neg (by omega)]
theorem i_PutRec_eq (r : TRec) (h1 : r.2.2.2.1.size ≤ maxLen) (hb : Byt r.2.2.2.2.2) : P_i_PutRec r = some (if recOkB r then putRec r else ⟨#[]⟩, ()) := by
  simp only [P_i_PutRec, B_i_PutRec, i_RecOk_eq r h1]
  cases hr : recOkB r with
  | false => rfl
  | true =>
    have hbd := recOk_bnd hr
    have hlen := recB_len r
    simp only [bindO, Bool.not_true, cond_false]
    rw [show (3 : Int) = ((3 : Nat) : Int) from rfl, i_putBig_eq [] _ 3 (by omega) (by simp)]
    simp only [List.nil_append]
    rw [show (2 : Int) = ((2 : Nat) : Int) from rfl, i_putBig_eq _ _ 2 (by omega) (by simp [big_len])]
    simp only
    rw [dec_true (by simp [big_len]), dec_true (by simp [big_len])]
    simp only [cond_true]
    rw [dec_true (by simp [big_len]; omega)]
    simp only [cond_true]
    rw [show (4 : Int) = ((4 : Nat) : Int) from rfl, i_putBig_eq _ _ 4 (by omega) (by simp [big_len, bytesOf_length]; omega)]
    simp only
    rw [dec_true (by simp [big_len, bytesOf_length]; omega), dec_true (by simp [big_len, bytesOf_length]; omega)]
    simp only [cond_true]
    rw [dec_true (by simp [big_len, bytesOf_length]; omega), dec_true (by simp [big_len, bytesOf_length]; omega)]
    simp only [cond_true]
    have e : big (clamp r.1) 3 ++ big (clamp r.2.1) 2 ++ [IntKind.u8.wrap r.2.2.1, IntKind.u8.wrap (r.2.2.2.1.size : Int)] ++ bytesOf r.2.2.2.1 ++ big (clamp r.2.2.2.2.1) 4 ++ [IntKind.u8.wrap (List.length r.2.2.2.2.2 : Int)] ++ r.2.2.2.2.2 = recB r := by
      unfold recB
      rw [big_one, big_one, big_one, clamp_nn (n := r.2.2.1) (by omega), clamp_nn (n := (r.2.2.2.1.size : Int)) (by omega), clamp_nn (n := (List.length r.2.2.2.2.2 : Int)) (by omega)]
      simp [List.append_assoc]
    rw [e, i_Crc_eq _ (recB_byt r hb) (by rw [hlen]; simp only [maxLen]; omega)]
    simp only
    rw [i_putBig_eq _ _ 4 (by omega) (by rw [hlen]; omega)]
    rfl
def idLen (b : List Int) : Nat := bigN b 6 1
def datLen (b : List Int) : Nat := bigN b (11 + idLen b) 1
/-- The record that bytes tell, if they are long enough. -/
def recAt (b : List Int) : TRec := ((bigN b 0 3 : Int), (bigN b 3 2 : Int), (bigN b 5 1 : Int), strOf ((b.take (7 + idLen b)).drop 7), (bigN b (7 + idLen b) 4 : Int), (b.take (12 + idLen b + datLen b)).drop (12 + idLen b))
def noRec : TRec × Bool × Unit := ((0, 0, 0, ⟨#[]⟩, 0, []), false, ())
def recGood (s : ByteArray) : Bool := decide (12 + idLen (bytesOf s) + datLen (bytesOf s) ≤ s.size) && recOkB (recAt (bytesOf s)) && ((putRec (recAt (bytesOf s))).toList == s.toList)
def getRec (s : ByteArray) : TRec × Bool × Unit := if recGood s = true then (recAt (bytesOf s), true, ()) else noRec
theorem getBig_ok (b : List Int) (a k : Nat) (h : a + k ≤ b.length) : getBig b (a : Int) k = ((bigN b a k : Int), true, ()) := by
  unfold getBig
  rw [if_pos (by omega), Int.toNat_natCast]
theorem getBig_no (b : List Int) (a k : Nat) (h : ¬ a + k ≤ b.length) : getBig b (a : Int) k = (0, false, ()) := by
  unfold getBig
  rw [if_neg (by omega)]
theorem big1_lt {b : List Int} (hb : Byt b) (a : Nat) : bigN b a 1 < 256 := by
  have := bigN_lt hb a 1
  omega
theorem recAt_len (b : List Int) (h : 12 + idLen b + datLen b ≤ b.length) : (recAt b).2.2.2.1.size = idLen b ∧ List.length (recAt b).2.2.2.2.2 = datLen b := by
  simp only [recAt, strOf_size, List.length_drop, List.length_take]
  omega
theorem recAt_byt {b : List Int} (hb : Byt b) : Byt (recAt b).2.2.2.2.2 := byt_drop (byt_take hb _) _
theorem s_GetRec_eq (s : ByteArray) (hs : s.size ≤ 1048576) : P_s_GetRec s = some (getRec s) := by
  have hbl := bytesOf_length s
  have hb := byt_bytesOf s
  have hh : (bytesOf s).length ≤ 1048576 := by omega
  have hsz : s.size = (bytesOf s).length := hbl.symm
  simp only [getRec, recGood, hsz]
  have hlen : decide ((bytesOf s).length ≤ 9223372036854775807) = true := dec_true (by omega)
  simp only [P_s_GetRec, B_s_GetRec, hsz, hlen, cond_true]
  clear hlen hsz
  generalize bytesOf s = b at hb hh ⊢
  clear hbl
  have g0 : ∀ (a : Int) (k : Nat) (k' : Int), k' = (k : Int) → 1 ≤ k ∧ k ≤ 7 → P_s_GetBig b a k' = some (getBig b a k) := fun a k k' e hk => by rw [e]; exact s_GetBig_eq b hb hh a k hk
  have q0 := g0 0 3 3 rfl (by omega)
  have q3 := g0 3 2 2 rfl (by omega)
  have q5 := g0 5 1 1 rfl (by omega)
  have q6 := g0 6 1 1 rfl (by omega)
  simp only [q0, q3, q5, q6]
  by_cases c1 : 7 ≤ b.length
  · have e0 := getBig_ok b 0 3 (by omega)
    have e3 := getBig_ok b 3 2 (by omega)
    have e5 := getBig_ok b 5 1 (by omega)
    have e6 := getBig_ok b 6 1 (by omega)
    simp only [Int.cast_ofNat_Int] at e0 e3 e5 e6
    have hn := big1_lt hb 6
    have hN : (bigN b 6 1 : Int) = ((idLen b : Nat) : Int) := rfl
    have hn' : idLen b < 256 := hn
    simp only [e0, e3, e5, e6, bindO, Bool.not_true, cond_false, hN]
    rw [w64 (n := 7 + (idLen b : Int)) (by omega) (by omega), w64 (n := 11 + (idLen b : Int)) (by omega) (by omega), w64 (n := 12 + (idLen b : Int)) (by omega) (by omega)]
    by_cases c2 : 7 + idLen b ≤ b.length
    · rw [dec_false (show ¬ 7 + (idLen b : Int) > (b.length : Int) by omega)]
      simp only [cond_false, bindS]
      rw [dec_true (show 7 ≤ 7 + (idLen b : Int) by omega), dec_true (show 7 + (idLen b : Int) ≤ (b.length : Int) by omega)]
      simp only [cond_true]
      have q7 := g0 (7 + (idLen b : Int)) 4 4 rfl (by omega)
      have q11 := g0 (11 + (idLen b : Int)) 1 1 rfl (by omega)
      simp only [q7, q11]
      by_cases c3 : 12 + idLen b ≤ b.length
      · have e7 := getBig_ok b (7 + idLen b) 4 (by omega)
        have e11 := getBig_ok b (11 + idLen b) 1 (by omega)
        simp only [Int.natCast_add, Int.cast_ofNat_Int] at e7 e11
        have hm : datLen b < 256 := big1_lt hb _
        have hM : (bigN b (11 + idLen b) 1 : Int) = ((datLen b : Nat) : Int) := rfl
        simp only [e7, e11, Bool.not_true, cond_false, hM]
        rw [w64 (n := 12 + (idLen b : Int) + (datLen b : Int)) (by omega) (by omega)]
        by_cases c4 : 12 + idLen b + datLen b ≤ b.length
        · rw [dec_false (show ¬ 12 + (idLen b : Int) + (datLen b : Int) > (b.length : Int) by omega), dec_true (show 0 ≤ 12 + (idLen b : Int) by omega), dec_true (show 12 + (idLen b : Int) ≤ 12 + (idLen b : Int) + (datLen b : Int) by omega), dec_true (show 12 + (idLen b : Int) + (datLen b : Int) ≤ (b.length : Int) by omega)]
          simp only [cond_true, cond_false]
          rw [dec_true (by simp; omega), dec_true (by simp; omega)]
          have t1 : (7 + (idLen b : Int)).toNat = 7 + idLen b := by omega
          have t2 : (12 + (idLen b : Int) + (datLen b : Int)).toNat = 12 + idLen b + datLen b := by omega
          have t3 : (12 + (idLen b : Int)).toNat = 12 + idLen b := by omega
          simp only [cond_true, List.nil_append, t1, t2, t3]
          have hr : (((bigN b 0 3 : Nat) : Int), ((bigN b 3 2 : Nat) : Int), ((bigN b 5 1 : Nat) : Int), strOf ((b.take (7 + idLen b)).drop 7), ((bigN b (7 + idLen b) 4 : Nat) : Int), (b.take (12 + idLen b + datLen b)).drop (12 + idLen b)) = recAt b := rfl
          obtain ⟨l1, l2⟩ := recAt_len b c4
          rw [hr, s_RecOk_eq _ (by rw [l1]; simp only [maxLen]; omega), s_l13Put_eq _ (by rw [l1]; omega) (by rw [l2]; omega) (recAt_byt hb)]
          rw [dec_true c4]
          simp only [Bool.true_and]
          cases recOkB (recAt b)
          · rfl
          · cases hp : ((putRec (recAt b)).toList == s.toList)
            · rfl
            · rfl
        · rw [dec_true (show 12 + (idLen b : Int) + (datLen b : Int) > (b.length : Int) by omega), dec_false c4]
          rfl
      · have e11 := getBig_no b (11 + idLen b) 1 (by omega)
        simp only [Int.natCast_add, Int.cast_ofNat_Int] at e11
        simp only [e11]
        rw [dec_false (show ¬ 12 + idLen b + datLen b ≤ b.length by omega)]
        cases (getBig b (7 + (idLen b : Int)) 4).2.1 <;> rfl
    · rw [dec_true (show 7 + (idLen b : Int) > (b.length : Int) by omega), dec_false (show ¬ 12 + idLen b + datLen b ≤ b.length by omega)]
      rfl
  · have e6 := getBig_no b 6 1 (by omega)
    simp only [Int.cast_ofNat_Int] at e6
    rw [dec_false (show ¬ 12 + idLen b + datLen b ≤ b.length by omega)]
    simp only [e6, bindO]
    cases (getBig b 0 3).2.1 <;> cases (getBig b 3 2).2.1 <;> cases (getBig b 5 1).2.1 <;> rfl
theorem num_good {b : List Int} (hb : Byt b) (hh : b.length ≤ 1048576) (a k : Nat) (k' : Int) (e : k' = (k : Int)) (hk : 1 ≤ k ∧ k ≤ 7) (h : a + k ≤ b.length) : P_i_byteReader_number (b, (a : Int), false) k' = some ((bigN b a k : Int), (b, ((a + k : Nat) : Int), false), ()) := by
  subst e
  simp only [P_i_byteReader_number, B_i_byteReader_number, i_GetBig_eq b hb hh _ k hk, getBig_ok b a k h, bindO, bindS, Bool.not_true, cond_false]
  rw [w64 (by omega) (by omega)]
  rfl
theorem num_short {b : List Int} (hb : Byt b) (hh : b.length ≤ 1048576) (a k : Nat) (k' : Int) (e : k' = (k : Int)) (hk : 1 ≤ k ∧ k ≤ 7) (h : ¬ a + k ≤ b.length) : P_i_byteReader_number (b, (a : Int), false) k' = some (0, (b, (a : Int), true), ()) := by
  subst e
  simp only [P_i_byteReader_number, B_i_byteReader_number, i_GetBig_eq b hb hh _ k hk, getBig_no b a k h, bindO, bindS, Bool.not_false, cond_false, cond_true]
theorem num_bad {b : List Int} (hb : Byt b) (hh : b.length ≤ 1048576) (a : Int) (k : Nat) (k' : Int) (e : k' = (k : Int)) (hk : 1 ≤ k ∧ k ≤ 7) : P_i_byteReader_number (b, a, true) k' = some (0, (b, a, true), ()) := by
  subst e
  simp only [P_i_byteReader_number, B_i_byteReader_number, i_GetBig_eq b hb hh _ k hk, bindO, bindS, cond_true]
theorem take_bad (b : List Int) (a n : Int) : P_i_byteReader_take (b, a, true) n = some ([], (b, a, true), ()) := by
  simp only [P_i_byteReader_take, B_i_byteReader_take, cond_true, bindS]
theorem take_good {b : List Int} (hh : b.length ≤ 1048576) (a n : Nat) (h : a + n ≤ b.length) : P_i_byteReader_take (b, (a : Int), false) (n : Int) = some ((b.take (a + n)).drop a, (b, ((a + n : Nat) : Int), false), ()) := by
  simp only [P_i_byteReader_take, B_i_byteReader_take, cond_false]
  rw [w64 (n := (b.length : Int) - (a : Int)) (by omega) (by omega), dec_false (by omega), w64 (n := (a : Int) + (n : Int)) (by omega) (by omega), w64 (n := (a : Int) + (n : Int) - (n : Int)) (by omega) (by omega)]
  simp only [cond_false, bindS]
  rw [dec_true (by omega), dec_true (by omega), dec_true (by omega)]
  simp only [cond_true]
  rw [clone_byte_eq _ (by simp; omega), show ((a : Int) + (n : Int)).toNat = a + n by omega, show ((a : Int) + (n : Int) - (n : Int)).toNat = a by omega]
  rfl
theorem take_short {b : List Int} (hh : b.length ≤ 1048576) (a n : Nat) (ha : a ≤ b.length) (h : ¬ a + n ≤ b.length) : P_i_byteReader_take (b, (a : Int), false) (n : Int) = some ([], (b, (a : Int), true), ()) := by
  simp only [P_i_byteReader_take, B_i_byteReader_take, cond_false]
  rw [w64 (n := (b.length : Int) - (a : Int)) (by omega) (by omega), dec_true (by omega)]
  rfl
theorem i_GetRec_eq (s : ByteArray) (hs : s.size ≤ 1048576) : P_i_GetRec s = some (getRec s) := by
  have hbl := bytesOf_length s
  have hb := byt_bytesOf s
  have hh : (bytesOf s).length ≤ 1048576 := by omega
  have hsz : s.size = (bytesOf s).length := hbl.symm
  simp only [getRec, recGood, hsz]
  have hlen : decide ((bytesOf s).length ≤ 9223372036854775807) = true := dec_true (by omega)
  simp only [P_i_GetRec, B_i_GetRec, hsz, hlen, cond_true]
  clear hlen hsz
  generalize bytesOf s = b at hb hh ⊢
  clear hbl
  have nb : ∀ (a : Int) (k : Nat) (k' : Int), k' = (k : Int) → 1 ≤ k ∧ k ≤ 7 → P_i_byteReader_number (b, a, true) k' = some (0, (b, a, true), ()) := fun a k k' e hk => num_bad hb hh a k k' e hk
  have nb1 : ∀ a : Int, P_i_byteReader_number (b, a, true) 1 = some (0, (b, a, true), ()) := fun a => nb a 1 1 rfl (by omega)
  have nb2 : ∀ a : Int, P_i_byteReader_number (b, a, true) 2 = some (0, (b, a, true), ()) := fun a => nb a 2 2 rfl (by omega)
  have nb4 : ∀ a : Int, P_i_byteReader_number (b, a, true) 4 = some (0, (b, a, true), ()) := fun a => nb a 4 4 rfl (by omega)
  have tb := take_bad b
  have z0 : ((0 : Int), false) = (((0 : Nat) : Int), false) := rfl
  rw [z0]
  by_cases c4 : 12 + idLen b + datLen b ≤ b.length
  · have hn' : idLen b < 256 := big1_lt hb _
    have hm' : datLen b < 256 := big1_lt hb _
    have hN : (bigN b 6 1 : Int) = ((idLen b : Nat) : Int) := rfl
    have hM : (bigN b (11 + idLen b) 1 : Int) = ((datLen b : Nat) : Int) := rfl
    rw [num_good hb hh 0 3 3 rfl (by omega) (by omega)]
    simp only [bindO]
    rw [num_good hb hh (0 + 3) 2 2 rfl (by omega) (by omega)]
    simp only
    rw [num_good hb hh (0 + 3 + 2) 1 1 rfl (by omega) (by omega)]
    simp only
    rw [num_good hb hh (0 + 3 + 2 + 1) 1 1 rfl (by omega) (by omega)]
    simp only [Nat.zero_add, Nat.reduceAdd, hN]
    rw [take_good hh 7 (idLen b) (by omega)]
    simp only
    rw [num_good hb hh (7 + idLen b) 4 4 rfl (by omega) (by omega)]
    simp only
    rw [num_good hb hh (7 + idLen b + 4) 1 1 rfl (by omega) (by omega)]
    simp only
    rw [show 7 + idLen b + 4 = 11 + idLen b by omega, hM, show 11 + idLen b + 1 = 12 + idLen b by omega, take_good hh (12 + idLen b) (datLen b) (by omega)]
    simp only [cond_false]
    have hr : (((bigN b 0 3 : Nat) : Int), ((bigN b 3 2 : Nat) : Int), ((bigN b 5 1 : Nat) : Int), strOf ((b.take (7 + idLen b)).drop 7), ((bigN b (7 + idLen b) 4 : Nat) : Int), (b.take (12 + idLen b + datLen b)).drop (12 + idLen b)) = recAt b := rfl
    obtain ⟨l1, l2⟩ := recAt_len b c4
    rw [hr, i_RecOk_eq _ (by rw [l1]; simp only [maxLen]; omega), i_PutRec_eq _ (by rw [l1]; simp only [maxLen]; omega) (recAt_byt hb)]
    rw [dec_true c4]
    simp only [Bool.true_and]
    cases recOkB (recAt b)
    · rfl
    · cases hp : ((putRec (recAt b)).toList == s.toList)
      · simp [hp]; rfl
      · simp [hp]
  · rw [dec_false c4]
    have fin : (if (false && recOkB (recAt b) && ((putRec (recAt b)).toList == s.toList)) = true then (recAt b, true, ()) else noRec) = noRec := by simp
    rw [fin]
    rcases Nat.lt_or_ge b.length (0 + 3) with d3 | d3
    · rw [num_short hb hh 0 3 3 rfl (by omega) (by omega)]
      simp only [bindO, nb1, nb2, nb4, tb]
      rfl
    rw [num_good hb hh 0 3 3 rfl (by omega) d3]
    simp only [bindO]
    rcases Nat.lt_or_ge b.length (0 + 3 + 2) with d5 | d5
    · rw [num_short hb hh (0 + 3) 2 2 rfl (by omega) (by omega)]
      simp only [nb1, nb2, nb4, tb]
      rfl
    rw [num_good hb hh (0 + 3) 2 2 rfl (by omega) d5]
    simp only
    rcases Nat.lt_or_ge b.length (0 + 3 + 2 + 1) with d6 | d6
    · rw [num_short hb hh (0 + 3 + 2) 1 1 rfl (by omega) (by omega)]
      simp only [nb1, nb2, nb4, tb]
      rfl
    rw [num_good hb hh (0 + 3 + 2) 1 1 rfl (by omega) d6]
    simp only
    rcases Nat.lt_or_ge b.length (0 + 3 + 2 + 1 + 1) with d7 | d7
    · rw [num_short hb hh (0 + 3 + 2 + 1) 1 1 rfl (by omega) (by omega)]
      simp only [nb1, nb2, nb4, tb]
      rfl
    rw [num_good hb hh (0 + 3 + 2 + 1) 1 1 rfl (by omega) d7]
    have hN : (bigN b 6 1 : Int) = ((idLen b : Nat) : Int) := rfl
    have hM : (bigN b (11 + idLen b) 1 : Int) = ((datLen b : Nat) : Int) := rfl
    simp only [Nat.zero_add, Nat.reduceAdd, hN]
    rcases Nat.lt_or_ge b.length (7 + idLen b) with e7 | e7
    · rw [take_short hh 7 (idLen b) (by omega) (by omega)]
      simp only [nb1, nb2, nb4, tb]
      rfl
    rw [take_good hh 7 (idLen b) e7]
    simp only
    rcases Nat.lt_or_ge b.length (7 + idLen b + 4) with e11 | e11
    · rw [num_short hb hh (7 + idLen b) 4 4 rfl (by omega) (by omega)]
      simp only [nb1, nb2, nb4, tb]
      rfl
    rw [num_good hb hh (7 + idLen b) 4 4 rfl (by omega) e11]
    simp only
    rcases Nat.lt_or_ge b.length (7 + idLen b + 4 + 1) with e12 | e12
    · rw [num_short hb hh (7 + idLen b + 4) 1 1 rfl (by omega) (by omega)]
      simp only [nb1, nb2, nb4, tb]
      rfl
    rw [num_good hb hh (7 + idLen b + 4) 1 1 rfl (by omega) e12]
    simp only
    rw [show 7 + idLen b + 4 = 11 + idLen b by omega, hM, show 11 + idLen b + 1 = 12 + idLen b by omega, take_short hh (12 + idLen b) (datLen b) (by omega) c4]
    rfl

theorem bl_irrefl : ∀ x : List UInt8, Op.bytesLess x x = false
  | [] => rfl
  | a :: x => by
    have h : ¬ a < a := UInt8.lt_irrefl a
    simp [Op.bytesLess, bl_irrefl x, h]
theorem bl_trans : ∀ {x y z : List UInt8}, Op.bytesLess x y = true → Op.bytesLess y z = true → Op.bytesLess x z = true
  | _, [], _, h, _ => by cases ‹List UInt8› <;> simp [Op.bytesLess] at h
  | _, _ :: _, [], _, h => by simp [Op.bytesLess] at h
  | [], _ :: _, _ :: _, _, _ => rfl
  | a :: x, b :: y, c :: z, h1, h2 => by
    simp only [Op.bytesLess, Bool.or_eq_true, Bool.and_eq_true, decide_eq_true_eq, beq_iff_eq] at h1 h2 ⊢
    rcases h1 with h1 | ⟨rfl, h1⟩
    · rcases h2 with h2 | ⟨rfl, h2⟩
      · exact .inl (UInt8.lt_trans h1 h2)
      · exact .inl h1
    · rcases h2 with h2 | ⟨rfl, h2⟩
      · exact .inl h2
      · exact .inr ⟨rfl, bl_trans h1 h2⟩
theorem bl_total : ∀ {x y : List UInt8}, Op.bytesLess x y = false → Op.bytesLess y x = false → x = y
  | [], [], _, _ => rfl
  | [], _ :: _, h, _ => by simp [Op.bytesLess] at h
  | _ :: _, [], _, h => by simp [Op.bytesLess] at h
  | a :: x, b :: y, h1, h2 => by
    simp only [Op.bytesLess, Bool.or_eq_false_iff, decide_eq_false_iff_not, Bool.and_eq_false_iff, beq_eq_false_iff_ne] at h1 h2
    have hab : a = b := by
      apply UInt8.le_antisymm
      · exact UInt8.not_lt.1 h2.1
      · exact UInt8.not_lt.1 h1.1
    subst hab
    exact congrArg (a :: ·) (bl_total (by simpa using h1.2) (by simpa using h2.2))
theorem bl_asymm {x y : List UInt8} (h : Op.bytesLess x y = true) : Op.bytesLess y x = false := by
  cases e : Op.bytesLess y x with
  | false => rfl
  | true => have := bl_trans h e; rw [bl_irrefl] at this; cases this
/-- Uploads in the order of their names. -/
def Ord (us : List TUp) : Prop := us.Pairwise fun a b => Op.bytesLess a.1.toList b.1.toList = true
theorem ord_at {us : List TUp} (h : Ord us) {i j : Nat} (hij : i < j) (hj : j < us.length) : Op.bytesLess (us[i]'(by omega)).1.toList us[j].1.toList = true := List.pairwise_iff_getElem.1 h i j (by omega) hj hij
/-- Where an upload would stand. -/
def upIns (us : List TUp) (id : ByteArray) : Nat := firstN (fun i => Op.bytesLess (rd kUp us (i : Int)).1.toList id.toList) 0 us.length
def upHas (us : List TUp) (id : ByteArray) : Bool := decide (upIns us id < us.length) && ((rd kUp us (upIns us id : Int)).1.toList == id.toList)
theorem firstN_goes (go : Nat → Bool) : ∀ k i j, i ≤ j → j < firstN go i k → go j = true
  | 0, i, j, h1, h2 => by simp only [firstN] at h2; omega
  | k + 1, i, j, h1, h2 => by
    simp only [firstN] at h2
    split at h2
    · rename_i hg
      by_cases e : j = i
      · rw [e]; exact hg
      · exact firstN_goes go k (i + 1) j (by omega) h2
    · omega
theorem firstN_uniq (go : Nat → Bool) (n p : Nat) (hp : p ≤ n) (h1 : ∀ j, j < p → go j = true) (h2 : p < n → go p = false) : firstN go 0 n = p := by
  have hl := firstN_le go n 0
  rcases Nat.lt_trichotomy (firstN go 0 n) p with h | h | h
  · have := firstN_fails go n 0 (by omega)
    rw [h1 _ h] at this; cases this
  · exact h
  · have := firstN_goes go n 0 p (by omega) h
    rw [h2 (by omega)] at this; cases this
theorem upIns_le (us : List TUp) (id : ByteArray) : upIns us id ≤ us.length := by have := firstN_le (fun i => Op.bytesLess (rd kUp us (i : Int)).1.toList id.toList) us.length 0; unfold upIns; omega
theorem upIns_lo {us : List TUp} {id : ByteArray} {j : Nat} (hj : j < upIns us id) : Op.bytesLess (us[j]'(by have := upIns_le us id; omega)).1.toList id.toList = true := by
  have := firstN_goes _ us.length 0 j (by omega) hj
  rwa [rd_nat (k := kUp) (xs := us) (by have := upIns_le us id; omega)] at this
theorem upIns_at {us : List TUp} {id : ByteArray} (h : upIns us id < us.length) : Op.bytesLess us[upIns us id].1.toList id.toList = false := by
  have := firstN_fails (fun i => Op.bytesLess (rd kUp us (i : Int)).1.toList id.toList) us.length 0 (by unfold upIns at h; omega)
  have h2 : Op.bytesLess (rd kUp us (upIns us id : Int)).1.toList id.toList = false := this
  rwa [rd_nat (k := kUp) (xs := us) h] at h2
theorem upIns_hi {us : List TUp} (ho : Ord us) {id : ByteArray} {j : Nat} (hj : upIns us id ≤ j) (hl : j < us.length) : Op.bytesLess us[j].1.toList id.toList = false := by
  rcases Nat.eq_or_lt_of_le hj with e | h
  · subst e; exact upIns_at hl
  · cases e : Op.bytesLess us[j].1.toList id.toList with
    | false => rfl
    | true =>
      have := bl_trans (ord_at ho h hl) e
      rw [upIns_at (by omega)] at this
      cases this
theorem upHas_iff {us : List TUp} {id : ByteArray} : upHas us id = true ↔ ∃ h : upIns us id < us.length, us[upIns us id].1.toList = id.toList := by
  unfold upHas
  constructor
  · intro h
    simp only [Bool.and_eq_true, decide_eq_true_eq, beq_iff_eq] at h
    refine ⟨h.1, ?_⟩
    have h2 := h.2
    rwa [rd_nat (k := kUp) (xs := us) h.1] at h2
  · rintro ⟨h, e⟩
    simp only [Bool.and_eq_true, decide_eq_true_eq, beq_iff_eq]
    refine ⟨h, ?_⟩
    rw [rd_nat (k := kUp) (xs := us) h]
    exact e
/-- Where there is no such upload, all from its place on are greater. -/
theorem upIns_gt {us : List TUp} (ho : Ord us) {id : ByteArray} (hn : upHas us id = false) {j : Nat} (hj : upIns us id ≤ j) (hl : j < us.length) : Op.bytesLess id.toList us[j].1.toList = true := by
  cases e : Op.bytesLess id.toList us[j].1.toList with
  | true => rfl
  | false =>
    have h1 := bl_total (upIns_hi ho hj hl) e
    exfalso
    rcases Nat.eq_or_lt_of_le hj with e2 | h
    · subst e2
      have := upHas_iff.2 ⟨hl, h1⟩
      rw [hn] at this; cases this
    · have h2 := ord_at ho h hl
      rw [h1, upIns_at (by omega)] at h2
      cases h2
theorem upIx_has {us : List TUp} (ho : Ord us) {id : ByteArray} (h : upHas us id = true) : upIx us id = upIns us id := by
  obtain ⟨hl, e⟩ := upHas_iff.1 h
  refine firstN_uniq _ us.length _ (upIns_le us id) (fun j hj => ?_) (fun _ => ?_)
  · rw [rd_nat (k := kUp) (xs := us) (by omega)]
    have h1 := upIns_lo hj
    cases e2 : ((us[j]'(by omega)).1.toList == id.toList) with
    | false => rfl
    | true =>
      rw [eq_of_beq e2, bl_irrefl] at h1
      cases h1
  · rw [rd_nat (k := kUp) (xs := us) hl, e]
    simp
theorem upIx_not {us : List TUp} (ho : Ord us) {id : ByteArray} (h : upHas us id = false) : upIx us id = us.length := by
  refine firstN_uniq _ us.length _ (Nat.le_refl _) (fun j hj => ?_) (fun h => by omega)
  rw [rd_nat (k := kUp) (xs := us) hj]
  cases e2 : (us[j].1.toList == id.toList) with
  | false => rfl
  | true =>
    exfalso
    have e3 := eq_of_beq e2
    by_cases hp : j < upIns us id
    · have h1 := upIns_lo hp
      rw [e3, bl_irrefl] at h1
      cases h1
    · have h1 := upIns_gt ho h (show upIns us id ≤ j by omega) hj
      rw [e3, bl_irrefl] at h1
      cases h1
theorem i_upAt_eq (us : List TUp) (id : ByteArray) (h : us.length ≤ maxLen) : P_i_upAt us id = some ((upIns us id : Int), upHas us id, ()) := by
  simp only [P_i_upAt, B_i_upAt]
  have e := loopO_first (L_i_upAt_0 us id) (fun i => ((i : Int), ())) us.length (fun i => ((i : Int), ())) (fun i => Op.bytesLess (rd kUp us (i : Int)).1.toList id.toList) (fun i hi => ?_) ?_
  · have e' : loopO (L_i_upAt_0 us id) (0, ()) = some ((upIns us id : Int), ()) := e
    rw [e']
    simp only [bindO]
    have hle := upIns_le us id
    unfold upHas
    by_cases hl : upIns us id < us.length
    · rw [dec_true (show (upIns us id : Int) < (us.length : Int) by omega), dec_true (show (0 : Int) ≤ (upIns us id : Int) by omega), dec_true hl]
      simp
    · rw [dec_false (show ¬ (upIns us id : Int) < (us.length : Int) by omega), dec_false hl]
      simp
  · have h1 : ((i : Int) < (us.length : Int)) := by omega
    have h2 : (0 : Int) ≤ (i : Int) := by omega
    simp only [L_i_upAt_0, dec_true h1, dec_true h2, cond_true]
    rw [w64 (by omega) (by simp only [maxLen] at h; omega)]
    cases Op.bytesLess (rd kUp us (i : Int)).1.toList id.toList <;> simp
  · simp [L_i_upAt_0]
theorem copyUps_eq (us : List TUp) (h : us.length ≤ 1048576) (hd : ∀ u ∈ us, List.length u.2.2.1 ≤ 2000000000) : P_s_l14CopyUps us = some (us, ()) := by
  simp only [P_s_l14CopyUps, B_s_l14CopyUps]
  have key := loopO_count (L_s_l14CopyUps_0 us) (fun i => ((i : Int), us.take i, ())) us.length (us, ()) (fun i hi => ?_) ?_
  · simpa using key
  · have h1 : ((i : Int) < (us.length : Int)) := by omega
    have h2 : (0 : Int) ≤ (i : Int) := by omega
    have hu : List.length (rd kUp us (i : Int)).2.2.1 ≤ 2000000000 := by
      rw [rd_nat (k := kUp) (xs := us) hi]
      exact hd _ (List.getElem_mem hi)
    have e : ((rd kUp us (i : Int)).1, (rd kUp us (i : Int)).2.1, [] ++ (rd kUp us (i : Int)).2.2.1, (rd kUp us (i : Int)).2.2.2) = us[i] := by
      rw [rd_nat (k := kUp) (xs := us) hi]
      rfl
    simp only [L_s_l14CopyUps_0, dec_true h1, dec_true h2, cond_true, e]
    rw [dec_true (by simp; omega), dec_true (by simp; omega), dec_true (by simp; omega), dec_true (by simp; omega), w64 (by omega) (by omega)]
    simp only [cond_true]
    rw [List.take_succ_eq_append_getElem hi]
    rfl
  · simp [L_s_l14CopyUps_0]
/-- The reference's upload in order: somewhere; at its place, if it is not there yet. -/
theorem l14Make_eq (us : List TUp) (u : TUp) (ho : Ord us) (h : us.length ≤ 1048576) (hd : ∀ u ∈ us, List.length u.2.2.1 ≤ 2000000000) :
    ∃ k, k ≤ us.length ∧ P_s_l14Make_r98_0_r99_0 us u = some (us.take k ++ u :: us.drop k, ()) ∧ (upHas us u.1 = false → k = upIns us u.1) := by
  simp only [P_s_l14Make_r98_0_r99_0, B_s_l14Make_r98_0_r99_0, copyUps_eq us h hd, bindO]
  rw [dec_true (by simp; omega), dec_true (by simp; omega)]
  simp only [cond_true]
  have hst : IntKind.i64.wrap (((us ++ [u]).length : Int) - 1) = (us.length : Int) := by
    rw [w64 (by simp only [List.length_append, List.length_singleton]; omega) (by simp only [List.length_append, List.length_singleton]; omega)]
    simp
  rw [hst]
  obtain ⟨z, e, k, hz1, hz2, hz3⟩ := loopO_ind (L_s_l14Make_r98_0_r99_0_0 u) (fun l => l.1.toNat)
    (fun l => ∃ (k : Nat) (c : TUp), l.1 = (k : Int) ∧ k ≤ us.length ∧ l.2.1 = us.take k ++ c :: us.drop k ∧ (upHas us u.1 = false → upIns us u.1 ≤ k))
    (fun z => ∃ k : Nat, k ≤ us.length ∧ (upHas us u.1 = false → k = upIns us u.1) ∧ ∃ c, z = ((k : Int), us.take k ++ c :: us.drop k, ())) (fun l hl => by
      obtain ⟨l1, l2, l3⟩ := l
      obtain ⟨k, c, h1, h2, h3, h4⟩ := hl
      simp only at h1 h3
      subst h1; subst h3
      simp only [L_s_l14Make_r98_0_r99_0_0]
      by_cases hk : k = 0
      · subst hk
        refine .inr ⟨_, by rw [dec_false (by omega)]; rfl, 0, by omega, fun q => ?_, c, rfl⟩
        have := h4 q; omega
      · obtain ⟨k, rfl⟩ : ∃ k', k = k' + 1 := ⟨k - 1, by omega⟩
        have hlen : (us.take (k + 1) ++ c :: us.drop (k + 1)).length = us.length + 1 := by simp; omega
        have ew : IntKind.i64.wrap (((k + 1 : Nat) : Int) - 1) = (k : Int) := by rw [w64 (by omega) (by omega)]; omega
        have hget : rd (.pair .str (.pair (.int .i64) (.pair (.rs 5 (.int .u8)) .bool))) (us.take (k + 1) ++ c :: us.drop (k + 1)) (k : Int) = us[k]'(by omega) := by
          rw [rd_nat (k := .pair .str (.pair (.int .i64) (.pair (.rs 5 (.int .u8)) .bool))) (xs := us.take (k + 1) ++ c :: us.drop (k + 1)) (by rw [hlen]; omega)]
          rw [List.getElem_append_left (by simp; omega), List.getElem_take]
        rw [dec_true (show ((k + 1 : Nat) : Int) > 0 by omega), ew, hlen, dec_true (show (0 : Int) ≤ (k : Int) by omega), dec_true (show (k : Int) < ((us.length + 1 : Nat) : Int) by omega), hget]
        simp only [cond_true]
        have hlen2 : (k : Int) + 1 = ((k + 1 : Nat) : Int) := by omega
        cases hc : (!(Op.bytesLess (us[k]'(by omega)).1.toList u.1.toList || ((us[k]'(by omega)).1.toList == u.1.toList))) with
        | false =>
          refine Or.inr ⟨(((k + 1 : Nat) : Int), us.take (k + 1) ++ c :: us.drop (k + 1), ()), rfl, k + 1, h2, fun q => ?_, c, rfl⟩
          have h5 := h4 q
          by_cases hkp : upIns us u.1 ≤ k
          · have h6 := upIns_gt ho q hkp (by omega)
            simp only [Bool.not_eq_false', Bool.or_eq_true, beq_iff_eq] at hc
            rcases hc with hc | hc
            · rw [bl_asymm h6] at hc; cases hc
            · rw [hc, bl_irrefl] at h6; cases h6
          · omega
        | true =>
          refine Or.inl ⟨((k : Int), us.take k ++ (us[k]'(by omega)) :: us.drop k, ()), ?_, ⟨k, us[k]'(by omega), rfl, by omega, rfl, fun q => ?_⟩, by simp only; omega⟩
          · simp only [cond_true, bindS]
            rw [dec_true (show (0 : Int) ≤ ((k + 1 : Nat) : Int) by omega), dec_true (show ((k + 1 : Nat) : Int) < ((us.length + 1 : Nat) : Int) by omega)]
            simp only [cond_true, bindO, Int.toNat_natCast]
            have e1 : (us.take (k + 1) ++ c :: us.drop (k + 1)).set (k + 1) (us[k]'(by omega)) = us.take k ++ (us[k]'(by omega)) :: us.drop k := by
              rw [List.set_append_right _ _ (by simp; omega)]
              rw [show (us.take (k + 1)).length = k + 1 by simp; omega, Nat.sub_self, List.set_cons_zero, List.take_succ_eq_append_getElem (by omega), List.append_assoc, List.drop_eq_getElem_cons (i := k) (by omega)]
              rfl
            rw [e1]
          · have h5 := h4 q
            by_cases hkp : k < upIns us u.1
            · have h6 := upIns_lo hkp
              rw [h6] at hc
              simp at hc
            · omega) ((us.length : Int), us ++ [u], ()) ⟨us.length, u, rfl, Nat.le_refl _, by simp, fun _ => upIns_le us u.1⟩
  obtain ⟨c, rfl⟩ := hz3
  rw [e]
  simp only
  have hlen : (us.take k ++ c :: us.drop k).length = us.length + 1 := by simp; omega
  rw [dec_true (by omega), dec_true (by rw [hlen]; omega)]
  simp only [cond_true, Int.toNat_natCast]
  refine ⟨k, hz1, ?_, hz2⟩
  rw [List.set_append_right _ _ (by simp; omega), show (us.take k).length = k by simp; omega, Nat.sub_self, List.set_cons_zero]
/-- A record that was read. -/
def RecG (r : TRec) : Prop := recOkB r = true ∧ Byt r.2.2.2.2.2
/-- An upload that a store may have. -/
def UpG (u : TUp) : Prop := (List.length u.2.2.1 : Int) ≤ u.2.1 ∧ u.2.1 ≤ 1000000000 ∧ u.1.size ≤ 8 ∧ Byt u.2.2.1
/-- Uploads that a store may have. -/
def Ups (us : List TUp) : Prop := Ord us ∧ us.length ≤ 10 ∧ ∀ u ∈ us, UpG u
theorem ups_nil : Ups [] := ⟨List.Pairwise.nil, by simp, fun u hu => by cases hu⟩
theorem ups_dat {us : List TUp} (h : Ups us) : ∀ u ∈ us, List.length u.2.2.1 ≤ 2000000000 := fun u hu => by have h1 := (h.2.2 u hu).1; have h2 := (h.2.2 u hu).2.1; omega
/-- What a record makes of uploads. -/
def foldOne (us : List TUp) (r : TRec) : Option (List TUp) :=
  let p := upIns us r.2.2.2.1
  let u := rd kUp us (p : Int)
  if r.2.2.1 = 1 then (if upHas us r.2.2.2.1 = true ∨ 10 ≤ us.length then none else some (us.take p ++ (r.2.2.2.1, r.2.2.2.2.1, [], false) :: us.drop p))
  else if upHas us r.2.2.2.1 = false then none
  else if r.2.2.1 = 2 then (if u.2.2.2 = true ∨ r.2.2.2.2.1 ≠ (List.length u.2.2.1 : Int) ∨ (List.length u.2.2.1 : Int) + (List.length r.2.2.2.2.2 : Int) > u.2.1 then none else some (us.set p (u.1, u.2.1, u.2.2.1 ++ r.2.2.2.2.2, u.2.2.2)))
  else if r.2.2.1 = 3 then (if u.2.2.2 = true ∨ (List.length u.2.2.1 : Int) ≠ u.2.1 then none else some (us.set p (u.1, u.2.1, u.2.2.1, true)))
  else if r.2.2.1 = 4 then some (us.take p ++ us.drop (p + 1))
  else none
def foldI (us : List TUp) (r : TRec) : List TUp × Bool × Unit := match foldOne us r with
  | some us' => (us', true, ())
  | none => ([], false, ())
theorem i_fold_eq (us : List TUp) (r : TRec) (h : Ups us) (h2 : List.length r.2.2.2.2.2 ≤ 1048576) : P_i_fold us r = some (foldI us r) := by
  have hl := h.2.1
  have hp := upIns_le us r.2.2.2.1
  simp only [P_i_fold, B_i_fold, i_upAt_eq us _ (show us.length ≤ maxLen by simp only [maxLen]; omega), bindO, foldI, foldOne]
  by_cases k1 : r.2.2.1 = 1
  · rw [dec_true k1, if_pos k1]
    simp only [cond_true]
    cases hh : upHas us r.2.2.2.1 with
    | true => simp [bindS]
    | false =>
      by_cases h10 : 10 ≤ us.length
      · rw [dec_true (show (us.length : Int) ≥ 10 by omega), if_pos (.inr h10)]
        rfl
      · rw [dec_false (show ¬ (us.length : Int) ≥ 10 by omega), if_neg (by simp; omega)]
        simp only [cond_false, bindS, P_slices_Insert_impl_Up_impl_Up, insFn]
        rw [dec_true (by omega), dec_true (by omega), dec_true (by simp), dec_true (by simp; omega)]
        simp [bindO]
  rw [dec_false k1, if_neg k1]
  simp only [cond_false]
  cases hh : upHas us r.2.2.2.1 with
  | false => simp
  | true =>
    obtain ⟨hlt, hid⟩ := upHas_iff.1 hh
    have hu : (List.length us[upIns us r.2.2.2.1].2.2.1 : Int) ≤ us[upIns us r.2.2.2.1].2.1 ∧ us[upIns us r.2.2.2.1].2.1 ≤ 1000000000 := ⟨(h.2.2 _ (List.getElem_mem hlt)).1, (h.2.2 _ (List.getElem_mem hlt)).2.1⟩
    have hrd : rd kUp us (upIns us r.2.2.2.1 : Int) = us[upIns us r.2.2.2.1] := rd_nat (k := kUp) (xs := us) hlt
    simp only [Bool.not_true, cond_false, Bool.true_eq_false, if_false]
    rw [dec_true (by omega), dec_true (by omega)]
    simp only [cond_true, Int.toNat_natCast, hrd]
    generalize us[upIns us r.2.2.2.1] = u at hu hid ⊢
    by_cases k2 : r.2.2.1 = 2
    · rw [dec_true k2, if_pos k2]
      simp only [cond_true]
      cases hd : u.2.2.2 with
      | true => simp [bindS]
      | false =>
        by_cases hn : r.2.2.2.2.1 = (List.length u.2.2.1 : Int)
        · rw [dec_true hn, w64 (by omega) (by omega)]
          by_cases hw : (List.length u.2.2.1 : Int) + (List.length r.2.2.2.2.2 : Int) > u.2.1
          · rw [dec_true hw, if_pos (.inr (.inr hw))]
            rfl
          · rw [dec_false hw, if_neg (by simp [hn]; omega)]
            simp only [Bool.not_true, cond_false, bindS]
            rw [dec_true (by omega), dec_true (by omega)]
            rfl
        · rw [dec_false hn, if_pos (.inr (.inl hn))]
          rfl
    rw [dec_false k2, if_neg k2]
    by_cases k3 : r.2.2.1 = 3
    · rw [dec_true k3, if_pos k3]
      simp only [cond_true, cond_false]
      cases hd : u.2.2.2 with
      | true => simp
      | false =>
        by_cases hn : (List.length u.2.2.1 : Int) = u.2.1
        · rw [dec_true hn, if_neg (by simp [hn])]
          rfl
        · rw [dec_false hn, if_pos (.inr hn)]
          rfl
    rw [dec_false k3, if_neg k3]
    by_cases k4 : r.2.2.1 = 4
    · rw [dec_true k4, if_pos k4, w64 (n := (upIns us r.2.2.2.1 : Int) + 1) (by omega) (by omega)]
      simp only [cond_true, cond_false, P_slices_Delete_impl_Up_impl_Up, delFn]
      rw [dec_true (by omega), dec_true (by omega), dec_true (by omega)]
      simp only [cond_true, Int.toNat_natCast]
      rw [show ((upIns us r.2.2.2.1 : Int) + 1).toNat = upIns us r.2.2.2.1 + 1 by omega]
    rw [dec_false k4, if_neg k4]
    rfl
theorem s_one_eq (us : List TUp) (r : TRec) (h : Ups us) (h2 : List.length r.2.2.2.2.2 ≤ 1048576) : ∃ x, P_s_l14One_r99_0 us r = some (x, (foldI us r).2.1, ()) ∧ ((foldI us r).2.1 = true → x = (foldI us r).1) := by
  have hl := h.2.1
  have hp := upIns_le us r.2.2.2.1
  have hat := l14At_eq us r.2.2.2.1 (show us.length ≤ maxLen by simp only [maxLen]; omega)
  have hcp := copyUps_eq us (by omega) (ups_dat h)
  obtain ⟨k, hk, hmk, hmk2⟩ := l14Make_eq us (r.2.2.2.1, r.2.2.2.2.1, [], false) h.1 (by omega) (ups_dat h)
  simp only [P_s_l14One_r99_0, B_s_l14One_r99_0, hat, hcp, hmk, bindO, foldI, foldOne]
  by_cases k1 : r.2.2.1 = 1
  · rw [dec_true k1, if_pos k1]
    simp only [cond_true]
    cases hh : upHas us r.2.2.2.1 with
    | true =>
      obtain ⟨hlt, hid⟩ := upHas_iff.1 hh
      rw [upIx_has h.1 hh, if_pos hlt, dec_false (by omega)]
      simp
    | false =>
      have hk2 := hmk2 hh
      simp only at hk2
      rw [upIx_not h.1 hh, if_neg (Nat.lt_irrefl _), dec_true (by omega)]
      simp only [cond_true]
      by_cases h10 : 10 ≤ us.length
      · rw [dec_false (by omega), if_pos (.inr h10)]
        simp
      · rw [dec_true (by omega), if_neg (by simp; omega), hk2]
        simp
  rw [dec_false k1, if_neg k1]
  simp only [cond_false]
  cases hh : upHas us r.2.2.2.1 with
  | false =>
    rw [upIx_not h.1 hh, if_neg (Nat.lt_irrefl _), dec_true (by omega)]
    simp
  | true =>
    obtain ⟨hlt, hid⟩ := upHas_iff.1 hh
    have hu : (List.length us[upIns us r.2.2.2.1].2.2.1 : Int) ≤ us[upIns us r.2.2.2.1].2.1 ∧ us[upIns us r.2.2.2.1].2.1 ≤ 1000000000 := ⟨(h.2.2 _ (List.getElem_mem hlt)).1, (h.2.2 _ (List.getElem_mem hlt)).2.1⟩
    have hrd : rd kUp us (upIns us r.2.2.2.1 : Int) = us[upIns us r.2.2.2.1] := rd_nat (k := kUp) (xs := us) hlt
    rw [upIx_has h.1 hh, if_pos hlt, dec_false (by omega)]
    simp only [cond_false, Bool.true_eq_false, if_false]
    rw [dec_true (by omega), dec_true (by omega)]
    simp only [cond_true, Int.toNat_natCast, hrd]
    generalize us[upIns us r.2.2.2.1] = u at hu hid ⊢
    by_cases k2 : r.2.2.1 = 2
    · rw [dec_true k2, if_pos k2]
      simp only [cond_true]
      cases hd : u.2.2.2 with
      | true => simp [bindS]
      | false =>
        by_cases hn : r.2.2.2.2.1 = (List.length u.2.2.1 : Int)
        · rw [dec_true hn, hn, w64 (by omega) (by omega)]
          by_cases hw : (List.length u.2.2.1 : Int) + (List.length r.2.2.2.2.2 : Int) > u.2.1
          · rw [dec_true hw, if_pos (.inr (.inr hw))]
            exact ⟨_, rfl, fun e => by cases e⟩
          · rw [dec_false hw, if_neg (by simp; omega)]
            simp only [Bool.not_true, cond_false, bindS]
            rw [dec_true (by omega), dec_true (by omega)]
            exact ⟨_, rfl, fun _ => rfl⟩
        · rw [dec_false hn, if_pos (.inr (.inl hn))]
          exact ⟨_, rfl, fun e => by cases e⟩
    rw [dec_false k2, if_neg k2]
    by_cases k3 : r.2.2.1 = 3
    · rw [dec_true k3, if_pos k3]
      simp only [cond_true, cond_false]
      cases hd : u.2.2.2 with
      | true => simp
      | false =>
        by_cases hn : (List.length u.2.2.1 : Int) = u.2.1
        · rw [dec_true hn, if_neg (by simp [hn])]
          exact ⟨_, rfl, fun _ => rfl⟩
        · rw [dec_false hn, if_pos (.inr hn)]
          exact ⟨_, rfl, fun e => by cases e⟩
    rw [dec_false k3, if_neg k3]
    by_cases k4 : r.2.2.1 = 4
    · rw [dec_true k4, if_pos k4, w64 (n := (upIns us r.2.2.2.1 : Int) + 1) (by omega) (by omega)]
      simp only [cond_true, cond_false]
      rw [dec_true (by omega), dec_true (by omega), dec_true (by omega), dec_true (by omega)]
      simp only [cond_true]
      rw [show ((upIns us r.2.2.2.1 : Int) + 1).toNat = upIns us r.2.2.2.1 + 1 by omega, dec_true (by omega)]
      simp only [cond_true, List.take_length]
      exact ⟨_, rfl, fun _ => rfl⟩
    rw [dec_false k4, if_neg k4]
    exact ⟨_, rfl, fun e => by cases e⟩
theorem ord_set {us : List TUp} (h : Ord us) (p : Nat) (hp : p < us.length) (u : TUp) (hu : u.1 = us[p].1) : Ord (us.set p u) := by
  refine List.pairwise_iff_getElem.2 fun i j hi hj hij => ?_
  simp only [List.length_set] at hi hj
  have hk : ∀ q (hq : q < us.length), ((us.set p u)[q]'(by simpa using hq)).1 = us[q].1 := fun q hq => by
    rw [List.getElem_set]
    split
    · rename_i e; subst e; exact hu
    · rfl
  rw [hk i hi, hk j hj]
  exact ord_at h hij hj
theorem foldOne_ups {us us' : List TUp} {r : TRec} (h : Ups us) (hr' : RecG r) (e : foldOne us r = some us') : Ups us' := by
  have hr := hr'.1
  have hp := upIns_le us r.2.2.2.1
  have hb := recOk_bnd hr
  simp only [foldOne] at e
  split at e
  · split at e
    · cases e
    rename_i hc
    injection e with e
    subst e
    have hnh : upHas us r.2.2.2.1 = false := by cases q : upHas us r.2.2.2.1; rfl; exact absurd (.inl q) hc
    refine ⟨?_, by simp; omega, fun u hu => ?_⟩
    · show List.Pairwise _ _
      rw [List.pairwise_append]
      refine ⟨h.1.sublist (List.take_sublist _ _), List.pairwise_cons.2 ⟨fun b hb => ?_, h.1.sublist (List.drop_sublist _ _)⟩, fun a ha b hb => ?_⟩
      · obtain ⟨j, hj, rfl⟩ := List.getElem_of_mem hb
        rw [List.getElem_drop]
        exact upIns_gt h.1 hnh (by omega) _
      · obtain ⟨j, hj, rfl⟩ := List.getElem_of_mem ha
        rw [List.length_take] at hj
        rw [List.getElem_take]
        have h1 := upIns_lo (us := us) (id := r.2.2.2.1) (j := j) (by omega)
        rcases List.mem_cons.1 hb with rfl | hb
        · exact h1
        · obtain ⟨q, hq, rfl⟩ := List.getElem_of_mem hb
          rw [List.getElem_drop]
          rw [List.length_drop] at hq
          exact bl_trans h1 (upIns_gt h.1 hnh (by omega) (by omega))
    · rcases List.mem_append.1 hu with hu | hu
      · exact h.2.2 u (List.mem_of_mem_take hu)
      · rcases List.mem_cons.1 hu with rfl | hu
        · exact ⟨by simp only [List.length_nil]; omega, by simp only; omega, hb.2.2.2.2.1, byt_nil⟩
        · exact h.2.2 u (List.mem_of_mem_drop hu)
  split at e
  · cases e
  rename_i _ hh
  have hh : upHas us r.2.2.2.1 = true := by cases q : upHas us r.2.2.2.1; exact absurd q hh; rfl
  obtain ⟨hlt, hid⟩ := upHas_iff.1 hh
  have hrd : rd kUp us (upIns us r.2.2.2.1 : Int) = us[upIns us r.2.2.2.1] := rd_nat (k := kUp) (xs := us) hlt
  have hu0 := h.2.2 _ (List.getElem_mem hlt)
  simp only [hrd] at e
  split at e
  · split at e
    · cases e
    rename_i hc
    injection e with e
    subst e
    refine ⟨ord_set h.1 _ hlt _ rfl, by simp; exact h.2.1, fun u hu => ?_⟩
    rcases List.mem_or_eq_of_mem_set hu with hu | rfl
    · exact h.2.2 u hu
    · refine ⟨?_, hu0.2.1, hu0.2.2.1, byt_app hu0.2.2.2 hr'.2⟩
      simp only [List.length_append]
      have : ¬ ((List.length us[upIns us r.2.2.2.1].2.2.1 : Int) + (List.length r.2.2.2.2.2 : Int) > us[upIns us r.2.2.2.1].2.1) := fun q => hc (.inr (.inr q))
      omega
  split at e
  · split at e
    · cases e
    injection e with e
    subst e
    refine ⟨ord_set h.1 _ hlt _ rfl, by simp; exact h.2.1, fun u hu => ?_⟩
    rcases List.mem_or_eq_of_mem_set hu with hu | rfl
    · exact h.2.2 u hu
    · exact hu0
  split at e
  · injection e with e
    subst e
    refine ⟨?_, by have := h.2.1; simp only [List.length_append, List.length_take, List.length_drop]; omega, fun u hu => ?_⟩
    · show List.Pairwise _ _
      rw [List.pairwise_append]
      refine ⟨h.1.sublist (List.take_sublist _ _), h.1.sublist (List.drop_sublist _ _), fun a ha b hb => ?_⟩
      obtain ⟨j, hj, rfl⟩ := List.getElem_of_mem ha
      obtain ⟨q, hq, rfl⟩ := List.getElem_of_mem hb
      rw [List.length_take] at hj
      rw [List.length_drop] at hq
      rw [List.getElem_take, List.getElem_drop]
      exact ord_at h.1 (by omega) (by omega)
    · rcases List.mem_append.1 hu with hu | hu
      · exact h.2.2 u (List.mem_of_mem_take hu)
      · exact h.2.2 u (List.mem_of_mem_drop hu)
  · cases e
/-- What records make. -/
def foldAll : List TUp → List TRec → Option (List TUp)
  | us, [] => some us
  | us, r :: l => match foldOne us r with
    | some us' => foldAll us' l
    | none => none
def foldRecs (l : List TRec) : List TUp × Bool × Unit := match foldAll [] l with
  | some us => (us, true, ())
  | none => ([], false, ())
theorem foldAll_ups : ∀ {l : List TRec} {us us' : List TUp}, Ups us → (∀ r ∈ l, RecG r) → foldAll us l = some us' → Ups us'
  | [], us, us', h, _, e => by simp only [foldAll, Option.some.injEq] at e; subst e; exact h
  | r :: l, us, us', h, hr, e => by
    simp only [foldAll] at e
    split at e
    · rename_i us1 e1
      exact foldAll_ups (foldOne_ups h (hr r (by simp)) e1) (fun x hx => hr x (by simp [hx])) e
    · cases e
theorem fold_loop {α : Type} (f : α → Option (α ⊕ ((List TUp × Unit) ⊕ (List TUp × Bool × Unit)))) (s : Nat → List TUp → α) (l : List TRec) (hr : ∀ r ∈ l, RecG r)
    (hs : ∀ (i : Nat) (hi : i < l.length) (us : List TUp), Ups us → f (s i us) = match foldOne us l[i] with
      | some us' => some (.inl (s (i + 1) us'))
      | none => some (.inr (.inr ([], false, ()))))
    (he : ∀ us, f (s l.length us) = some (.inr (.inl (us, ())))) : bindS (loopO f (s 0 [])) (fun m => some (m.1, true, ())) = some (foldRecs l) := by
  have key : ∀ k i us, i + k = l.length → Ups us → bindS (loopO f (s i us)) (fun m => some (m.1, true, ())) = some (match foldAll us (l.drop i) with
      | some us' => (us', true, ())
      | none => ([], false, ())) := by
    intro k
    induction k with
    | zero =>
      intro i us hi hu
      obtain rfl : i = l.length := by omega
      rw [loopO_eq, he]
      simp [foldAll, bindS]
    | succ k ih =>
      intro i us hi hu
      have hlt : i < l.length := by omega
      rw [loopO_eq, hs i hlt us hu, List.drop_eq_getElem_cons hlt]
      simp only [foldAll]
      cases e : foldOne us l[i] with
      | none => rfl
      | some us' => exact ih (i + 1) us' (by omega) (foldOne_ups hu (hr _ (List.getElem_mem hlt)) e)
  exact key l.length 0 [] (by omega) ups_nil
theorem i_FoldRecs_eq (l : List TRec) (hl : l.length ≤ maxLen) (hr : ∀ r ∈ l, RecG r) : P_i_FoldRecs l = some (foldRecs l) := by
  simp only [P_i_FoldRecs, B_i_FoldRecs]
  refine fold_loop (L_i_FoldRecs_0 P_i_fold l) (fun i us => ((i : Int), us, ())) l hr (fun i hi us hu => ?_) (fun us => by simp [L_i_FoldRecs_0])
  have h1 : ((i : Int) < (l.length : Int)) := by omega
  have h2 : (0 : Int) ≤ (i : Int) := by omega
  have hb := recOk_bnd (hr _ (List.getElem_mem hi)).1
  simp only [L_i_FoldRecs_0, dec_true h1, dec_true h2, cond_true]
  rw [rd_nat (k := kRec) (xs := l) hi, i_fold_eq us _ hu (by omega), w64 (by omega) (by simp only [maxLen] at hl; omega)]
  simp only [bindO, foldI]
  cases foldOne us l[i] <;> rfl
theorem s_FoldRecs_eq (l : List TRec) (hl : l.length ≤ maxLen) (hr : ∀ r ∈ l, RecG r) : P_s_FoldRecs_r99_0 l = some (foldRecs l) := by
  simp only [P_s_FoldRecs_r99_0, B_s_FoldRecs_r99_0]
  refine fold_loop (L_s_FoldRecs_r99_0_0 P_s_l14One_r99_0 l) (fun i us => (us, (i : Int), ())) l hr (fun i hi us hu => ?_) (fun us => by simp [L_s_FoldRecs_r99_0_0])
  have h1 : ((i : Int) < (l.length : Int)) := by omega
  have h2 : (0 : Int) ≤ (i : Int) := by omega
  have hb := recOk_bnd (hr _ (List.getElem_mem hi)).1
  obtain ⟨x, hx, hx2⟩ := s_one_eq us l[i] hu (by omega)
  simp only [L_s_FoldRecs_r99_0_0, dec_true h1, dec_true h2, cond_true]
  rw [rd_nat (k := kRec) (xs := l) hi, hx, w64 (by omega) (by simp only [maxLen] at hl; omega)]
  simp only [bindO, foldI] at hx2 ⊢
  cases e : foldOne us l[i] with
  | none => rfl
  | some us' =>
    rw [e] at hx2
    rw [hx2 rfl]
    rfl

/-- Sectors that are not too many nor too long. -/
def Secs (l : List ByteArray) : Prop := l.length ≤ 1048576 ∧ ∀ s ∈ l, s.size ≤ 1048576
theorem secs_at {l : List ByteArray} (h : Secs l) {i : Nat} (hi : i < l.length) : (rd .str l (i : Int)).size ≤ 1048576 := by
  rw [rd_str hi]
  exact h.2 _ (List.getElem_mem hi)
theorem getRec_good {s : ByteArray} (h : (getRec s).2.1 = true) : RecG (getRec s).1 := by
  unfold getRec at h ⊢
  split at h
  · rename_i hg
    rw [if_pos hg]
    simp only [recGood, Bool.and_eq_true] at hg
    exact ⟨hg.1.2, recAt_byt (byt_bytesOf s)⟩
  · cases h
theorem scan_step (d : TDisk) (h : Secs d.1) (l : Int × Int × List TRec × Unit) (h0 : 0 ≤ l.2.1) : L_i_ScanRecs_0 P_i_GetRec d l = L_s_ScanRecs_0 P_s_GetRec d l := by
  simp only [L_i_ScanRecs_0, L_s_ScanRecs_0]
  by_cases hi : l.2.1 < (d.1.length : Int)
  · obtain ⟨i, hn⟩ : ∃ i : Nat, l.2.1 = (i : Int) := ⟨l.2.1.toNat, by omega⟩
    rw [hn] at hi ⊢
    rw [s_GetRec_eq _ (secs_at h (by omega)), i_GetRec_eq _ (secs_at h (by omega))]
  · rw [dec_false hi]
    rfl
theorem scan_ok (d : TDisk) (h : Secs d.1) : ∃ l, P_s_ScanRecs d = some (l, ()) ∧ P_i_ScanRecs d = some (l, ()) ∧ l.length ≤ d.1.length ∧ ∀ r ∈ l, RecG r := by
  have hl := h.1
  obtain ⟨z, e, hz1, hz2⟩ := loopO_ind (L_s_ScanRecs_0 P_s_GetRec d) (fun l => ((d.1.length : Int) - l.2.1).toNat) (fun l => 0 ≤ l.2.1 ∧ (List.length l.2.2.1 : Int) = l.2.1 ∧ l.2.1 ≤ (d.1.length : Int) ∧ ∀ r ∈ l.2.2.1, RecG r)
    (fun z => List.length z.1 ≤ d.1.length ∧ ∀ r ∈ z.1, RecG r) (fun l hl => by
      obtain ⟨h0, h1, h2, h3⟩ := hl
      simp only [L_s_ScanRecs_0]
      by_cases hi : l.2.1 < (d.1.length : Int)
      · obtain ⟨i, hn⟩ : ∃ i : Nat, l.2.1 = (i : Int) := ⟨l.2.1.toNat, by omega⟩
        rw [dec_true hi, dec_true h0]
        simp only [cond_true]
        rw [hn] at hi h0 h1 h2 ⊢
        rw [s_GetRec_eq _ (secs_at h (by omega))]
        simp only [bindO]
        have hg := @getRec_good (rd .str d.1 (i : Int))
        generalize getRec (rd .str d.1 (i : Int)) = g at hg ⊢
        have fin : List.length l.2.2.1 ≤ d.1.length ∧ ∀ r ∈ l.2.2.1, RecG r := ⟨by omega, h3⟩
        cases hk : g.2.1 with
        | false => exact .inr ⟨_, rfl, fin⟩
        | true =>
          simp only [Bool.not_true, cond_false]
          by_cases e1 : g.1.2.1 = (i : Int)
          · rw [dec_true e1]
            by_cases e2 : g.1.1 < l.1
            · rw [dec_true e2]; exact .inr ⟨_, rfl, fin⟩
            · rw [dec_false e2]
              simp only [Bool.not_true, cond_false]
              rw [dec_true (by simp; omega), dec_true (by simp; omega), w64 (by omega) (by omega)]
              refine .inl ⟨_, rfl, ⟨by simp only; omega, by simp; omega, by simp only; omega, fun r hr => ?_⟩, by simp only; omega⟩
              rcases List.mem_append.1 hr with hr | hr
              · exact h3 r hr
              · rw [List.mem_singleton.1 hr]; exact hg hk
          · rw [dec_false e1]; exact .inr ⟨_, rfl, fin⟩
      · rw [dec_false hi]
        exact .inr ⟨_, rfl, by simp only; omega, h3⟩) (0, 0, [], ()) ⟨by simp, by simp, by simp, fun r hr => by cases hr⟩
  refine ⟨z.1, e, ?_, hz1, hz2⟩
  simp only [P_i_ScanRecs, B_i_ScanRecs]
  rw [loopO_congr (g := L_s_ScanRecs_0 P_s_GetRec d) (fun l => 0 ≤ l.2.1) (fun l h0 => scan_step d h l h0) (fun l y h0 e => ?_) (by simp)]
  · exact e
  · simp only [L_i_ScanRecs_0] at e
    by_cases hi : l.2.1 < (d.1.length : Int)
    · obtain ⟨i, hn⟩ : ∃ i : Nat, l.2.1 = (i : Int) := ⟨l.2.1.toNat, by omega⟩
      rw [dec_true hi, dec_true h0] at e
      simp only [cond_true] at e
      rw [hn] at hi h0 e
      rw [i_GetRec_eq _ (secs_at h (by omega))] at e
      simp only [bindO] at e
      rw [w64 (n := (i : Int) + 1) (by omega) (by omega)] at e
      generalize getRec (rd .str d.1 (i : Int)) = g at e
      cases hk : g.2.1 <;> simp only [hk, Bool.not_true, Bool.not_false, cond_true, cond_false] at e
      · cases e
      · revert e
        cases decide (g.1.2.1 = (i : Int)) <;> cases decide (g.1.1 < l.1) <;> simp only [Bool.not_true, Bool.not_false, cond_true, cond_false]
        · intro e; cases e
        · intro e; cases e
        · cases decide (List.length l.2.2.1 + List.length [g.1] ≤ 9223372036854775807) <;> cases decide ((List.length l.2.2.1 + List.length [g.1]) * 72 ≤ 140737488355328) <;> intro e
          · cases e
          · cases e
          · cases e
          · simp only [cond_true] at e
            injection e with e; injection e with e; subst e
            simp only; omega
        · intro e; cases e
    · rw [dec_false hi] at e
      cases e
theorem diskOk_eq : P_i_DiskOk = P_s_DiskOk := rfl
theorem s_DiskOk_ok (d : TDisk) (h : d.1.length ≤ 1048576) : ∃ b, P_s_DiskOk d = some (b, ()) ∧ (b = true → d.1.length = d.2.length ∧ d.1.length ≤ 200) := by
  simp only [P_s_DiskOk, B_s_DiskOk]
  by_cases h1 : (d.1.length : Int) = (d.2.length : Int)
  · rw [dec_true h1]
    by_cases h2 : (d.1.length : Int) > 200
    · rw [dec_true h2]
      exact ⟨_, rfl, fun e => by cases e⟩
    · rw [dec_false h2]
      simp only [Bool.not_true, cond_false, bindS]
      refine ⟨_, loopB (L_s_DiskOk_0 d) d.1.length (by simp only [maxLen]; omega) (fun i => !decide (((rd .str d.1 (i : Int)).size : Int) > 64) && !decide (((rd .str d.2 (i : Int)).size : Int) > 64)) (fun i hi => ?_) (by simp [L_s_DiskOk_0]), fun _ => by omega⟩
      have g1 : ((i : Int) < (d.1.length : Int)) := by omega
      have g2 : (0 : Int) ≤ (i : Int) := by omega
      have g3 : ((i : Int) < (d.2.length : Int)) := by omega
      simp only [L_s_DiskOk_0, dec_true g1, dec_true g2, dec_true g3, cond_true]
      cases decide (((rd .str d.1 (i : Int)).size : Int) > 64) <;> cases decide (((rd .str d.2 (i : Int)).size : Int) > 64) <;> rfl
  · rw [dec_false h1]
    exact ⟨_, rfl, fun e => by cases e⟩
/-- Two uploads that are the same. -/
def sameUpB (a b : TUp) : Bool := (a.1.toList == b.1.toList) && decide (a.2.1 = b.2.1) && (a.2.2.2 == b.2.2.2) && ((strOf a.2.2.1).toList == (strOf b.2.2.1).toList)
def sameUpsB (a b : List TUp) : Bool := decide (a.length = b.length) && (List.range a.length).all fun i => sameUpB (rd kUp a (i : Int)) (rd kUp b (i : Int))
theorem i_sameUp_eq (a b : TUp) : P_i_sameUp a b = some (sameUpB a b, ()) := by
  simp only [P_i_sameUp, B_i_sameUp, P_bytes_Equal, B_bytes_Equal, bindO, sameUpB]
  cases (a.1.toList == b.1.toList) <;> cases decide (a.2.1 = b.2.1) <;> cases (a.2.2.2 == b.2.2.2) <;> rfl
theorem i_same_eq (a b : List TUp) (h : a.length ≤ maxLen) : P_slices_EqualFunc_impl_Up_impl_Up_impl_Up_impl_Up_r1002_90 a b () = some (sameUpsB a b, ()) := by
  simp only [P_slices_EqualFunc_impl_Up_impl_Up_impl_Up_impl_Up_r1002_90, B_slices_EqualFunc_impl_Up_impl_Up_impl_Up_impl_Up_r1002_90, sameUpsB]
  by_cases hl : a.length = b.length
  · rw [dec_true (show (a.length : Int) = (b.length : Int) by omega), dec_true hl]
    simp only [Bool.not_true, cond_false, Bool.true_and]
    refine loopB _ a.length h (fun i => sameUpB (rd kUp a (i : Int)) (rd kUp b (i : Int))) (fun i hi => ?_) (by simp [L_slices_EqualFunc_impl_Up_impl_Up_impl_Up_impl_Up_r1002_90_0])
    have g1 : ((i : Int) < (a.length : Int)) := by omega
    have g2 : (0 : Int) ≤ (i : Int) := by omega
    have g3 : ((i : Int) < (b.length : Int)) := by omega
    simp only [L_slices_EqualFunc_impl_Up_impl_Up_impl_Up_impl_Up_r1002_90_0, dec_true g1, dec_true g2, dec_true g3, cond_true, i_sameUp_eq, bindO]
    cases sameUpB (rd kUp a (i : Int)) (rd kUp b (i : Int)) <;> rfl
  · rw [dec_false (show ¬ (a.length : Int) = (b.length : Int) by omega), dec_false hl]
    rfl
theorem s_same_eq (a b : List TUp) (h : a.length ≤ maxLen) : P_s_l14SameUps a b = some (sameUpsB a b, ()) := by
  simp only [P_s_l14SameUps, B_s_l14SameUps, sameUpsB]
  by_cases hl : a.length = b.length
  · rw [dec_true (show (a.length : Int) = (b.length : Int) by omega), dec_true hl]
    simp only [Bool.not_true, cond_false, Bool.true_and]
    refine loopB _ a.length h (fun i => sameUpB (rd kUp a (i : Int)) (rd kUp b (i : Int))) (fun i hi => ?_) (by simp [L_s_l14SameUps_0])
    have g1 : ((i : Int) < (a.length : Int)) := by omega
    have g2 : (0 : Int) ≤ (i : Int) := by omega
    have g3 : ((i : Int) < (b.length : Int)) := by omega
    simp only [L_s_l14SameUps_0, dec_true g1, dec_true g2, dec_true g3, cond_true, sameUpB]
    cases ((rd kUp a (i : Int)).1.toList == (rd kUp b (i : Int)).1.toList) <;> cases decide ((rd kUp a (i : Int)).2.1 = (rd kUp b (i : Int)).2.1) <;> cases ((rd kUp a (i : Int)).2.2.2 == (rd kUp b (i : Int)).2.2.2) <;> cases ((strOf (rd kUp a (i : Int)).2.2.1).toList == (strOf (rd kUp b (i : Int)).2.2.1).toList) <;> rfl
  · rw [dec_false (show ¬ (a.length : Int) = (b.length : Int) by omega), dec_false hl]
    rfl
/-- A sector with a record that is not older than e. -/
def newer (e : Int) (s : ByteArray) : Bool := (getRec s).2.1 && decide ((getRec s).1.1 ≥ e)
def topOf (t : Int) (s : ByteArray) : Int := bif (getRec s).2.1 then (bif decide ((getRec s).1.1 > t) then (getRec s).1.1 else t) else t
def topL (l : List ByteArray) : Int := l.foldl topOf (-1)
theorem foldl_top (e : Int) : ∀ (l : List ByteArray) (t : Int), decide (l.foldl topOf t < e) = (decide (t < e) && l.all fun s => !newer e s)
  | [], t => (Bool.and_true _).symm
  | s :: l, t => by
    rw [List.foldl_cons, foldl_top e l, List.all_cons]
    unfold topOf newer
    cases (getRec s).2.1 with
    | false => simp
    | true =>
      simp only [cond_true, Bool.true_and]
      by_cases h1 : (getRec s).1.1 > t
      · rw [dec_true h1]
        by_cases h2 : (getRec s).1.1 ≥ e
        · rw [dec_true h2]
          simp only [cond_true]
          rw [dec_false (show ¬ (getRec s).1.1 < e by omega)]
          simp
        · rw [dec_false h2]
          simp only [cond_true]
          rw [dec_true (show (getRec s).1.1 < e by omega), dec_true (show t < e by omega)]
          simp
      · rw [dec_false h1]
        simp only [cond_false]
        by_cases h3 : t < e
        · rw [dec_true h3, dec_false (show ¬ (getRec s).1.1 ≥ e by omega)]
          simp
        · rw [dec_false h3]
          simp
theorem i_topFrom_eq (l : List ByteArray) (h : Secs l) : P_i_topFrom l = some (topL l, ()) := by
  have hl := h.1
  simp only [P_i_topFrom, B_i_topFrom]
  have key := loopO_count (L_i_topFrom_0 P_i_GetRec l) (fun i => ((l.take i).foldl topOf (-1), (i : Int), ())) l.length (topL l, ()) (fun i hi => ?_) ?_
  · simpa using key
  · have g1 : ((i : Int) < (l.length : Int)) := by omega
    have g2 : (0 : Int) ≤ (i : Int) := by omega
    simp only [L_i_topFrom_0, dec_true g1, dec_true g2, cond_true]
    rw [i_GetRec_eq _ (secs_at h hi), w64 (by omega) (by omega)]
    simp only [bindO]
    have e : (l.take (i + 1)).foldl topOf (-1) = topOf ((l.take i).foldl topOf (-1)) (rd .str l (i : Int)) := by
      rw [List.take_succ_eq_append_getElem hi, List.foldl_append, rd_str hi]
      rfl
    rw [e]
    unfold topOf
    cases (getRec (rd .str l (i : Int))).2.1 <;> rfl
  · simp [L_i_topFrom_0, topL]
theorem firstN_all (go : Nat → Bool) (n : Nat) : decide (firstN go 0 n = n) = (List.range n).all go := by
  rw [Bool.eq_iff_iff]
  simp only [decide_eq_true_eq, List.all_eq_true, List.mem_range]
  constructor
  · intro h j hj
    exact firstN_goes go n 0 j (by omega) (by omega)
  · intro h
    exact firstN_uniq go n n (Nat.le_refl _) h (fun h => by omega)
theorem s_tail_eq (st : TStore) (h : Secs st.1.1) (n : Nat) (hn : n ≤ st.1.1.length) : loopO (L_s_StoreOk_0 P_s_GetRec st) ((n : Int), ()) = some ((st.1.1.drop n).all fun s => !newer st.2.1 s, ()) := by
  have hl := h.1
  have key := loopO_first (L_s_StoreOk_0 P_s_GetRec st) (fun j => (((n + j : Nat) : Int), ())) (st.1.1.length - n) (fun j => (decide (j = st.1.1.length - n), ())) (fun j => !newer st.2.1 (rd .str st.1.1 ((n + j : Nat) : Int))) (fun j hj => ?_) ?_
  · have e : loopO (L_s_StoreOk_0 P_s_GetRec st) ((n : Int), ()) = _ := key
    rw [e, firstN_all]
    congr 2
    rw [Bool.eq_iff_iff]
    simp only [List.all_eq_true, List.mem_range]
    constructor
    · intro h2 s hs
      obtain ⟨j, hj, rfl⟩ := List.getElem_of_mem hs
      rw [List.length_drop] at hj
      have := h2 j hj
      rw [rd_str (by omega)] at this
      rw [List.getElem_drop]
      exact this
    · intro h2 j hj
      rw [rd_str (by omega)]
      refine h2 _ ?_
      rw [List.mem_iff_getElem]
      exact ⟨j, by rw [List.length_drop]; omega, by rw [List.getElem_drop]⟩
  · have g1 : (((n + j : Nat) : Int) < (st.1.1.length : Int)) := by omega
    have g2 : (0 : Int) ≤ ((n + j : Nat) : Int) := by omega
    simp only [L_s_StoreOk_0, dec_true g1, dec_true g2, cond_true]
    rw [s_GetRec_eq _ (secs_at h (by omega)), w64 (by omega) (by omega)]
    simp only [bindO, newer]
    rw [dec_false (show ¬ j = st.1.1.length - n by omega)]
    have e2 : n + (j + 1) = (n + j) + 1 := by omega
    simp only [e2, Int.natCast_succ]
    cases (getRec (rd .str st.1.1 ((n + j : Nat) : Int))).2.1 <;> cases decide ((getRec (rd .str st.1.1 ((n + j : Nat) : Int))).1.1 ≥ st.2.1) <;> rfl
  · have g1 : ¬ (((n + (st.1.1.length - n) : Nat) : Int) < (st.1.1.length : Int)) := by omega
    simp only [L_s_StoreOk_0, dec_false g1, cond_false]
    simp
/-- What is known of a store that is right. -/
def StoreG (st : TStore) : Prop := 0 ≤ st.2.1 ∧ st.2.1 ≤ 10000 ∧ st.1.1.length = st.1.2.length ∧ st.1.1.length ≤ 200 ∧ (0 ≤ st.2.2.1 ∧ st.2.2.1 ≤ (st.1.1.length : Int)) ∧ ∃ us, Ups us ∧ sameUpsB us st.2.2.2 = true
theorem storeOk_eq (st : TStore) (h : Secs st.1.1) : ∃ b, P_s_StoreOk st = some (b, ()) ∧ P_i_StoreOk st = some (b, ()) ∧ (b = true → StoreG st) := by
  have hl := h.1
  obtain ⟨bd, hd, hdt⟩ := s_DiskOk_ok st.1 hl
  obtain ⟨l, hs, hi, hll, hrg⟩ := scan_ok st.1 h
  have hfs := s_FoldRecs_eq l (by simp only [maxLen]; omega) hrg
  have hfi := i_FoldRecs_eq l (by simp only [maxLen]; omega) hrg
  have hups : (foldRecs l).2.1 = true → Ups (foldRecs l).1 := by
    intro e
    unfold foldRecs at e ⊢
    split
    · rename_i us' e1
      exact foldAll_ups ups_nil hrg e1
    · rename_i e1
      rw [e1] at e; cases e
  simp only [P_s_StoreOk, B_s_StoreOk, P_i_StoreOk, B_i_StoreOk, diskOk_eq, hd, hs, hi, hfs, hfi, P_i_isEpoch, B_i_isEpoch, l1In_eq, inRange_eq, bindO]
  cases bd with
  | false =>
    by_cases he : 0 ≤ st.2.1 ∧ st.2.1 ≤ 10000
    · rw [dec_true he]
      exact ⟨_, rfl, rfl, fun e => by cases e⟩
    · rw [dec_false he]
      exact ⟨_, rfl, rfl, fun e => by cases e⟩
  | true =>
    cases he' : decide (0 ≤ st.2.1 ∧ st.2.1 ≤ 10000) with
    | false => exact ⟨_, rfl, rfl, fun e => by cases e⟩
    | true =>
      have he := of_decide_eq_true he'
      have hd2 := hdt rfl
      simp only [Bool.not_true, cond_false, bindS]
      generalize hf : foldRecs l = fr at hups
      cases hk : fr.2.1 with
      | false => exact ⟨_, rfl, rfl, fun e => by cases e⟩
      | true =>
        have hu := hups hk
        have hul := hu.2.1
        rw [s_same_eq _ _ (show fr.1.length ≤ maxLen by simp only [maxLen]; omega), i_same_eq _ _ (show fr.1.length ≤ maxLen by simp only [maxLen]; omega)]
        simp only [Bool.not_true, cond_false]
        cases hn' : decide (st.2.2.1 = (List.length l : Int)) with
        | false =>
          cases sameUpsB fr.1 st.2.2.2 <;> exact ⟨_, rfl, rfl, fun e => by cases e⟩
        | true =>
          have hn := of_decide_eq_true hn'
          cases hsm : sameUpsB fr.1 st.2.2.2 with
          | false => exact ⟨_, rfl, rfl, fun e => by cases e⟩
          | true =>
            have hg : StoreG st := ⟨he.1, he.2, hd2.1, hd2.2, by omega, fr.1, hu, hsm⟩
            simp only [Bool.not_true, cond_false]
            rw [hn, s_tail_eq st h l.length hll, dec_true (show (0 : Int) ≤ (List.length l : Int) by omega), dec_true (show (List.length l : Int) ≤ (st.1.1.length : Int) by omega), Int.toNat_natCast, List.take_length]
            simp only [cond_true]
            have hdr : Secs (st.1.1.drop l.length) := ⟨by rw [List.length_drop]; omega, fun s hs => h.2 s (List.mem_of_mem_drop hs)⟩
            rw [i_topFrom_eq _ hdr]
            have htop : decide (st.2.1 > topL (st.1.1.drop l.length)) = ((st.1.1.drop l.length).all fun s => !newer st.2.1 s) := by
              have := foldl_top st.2.1 (st.1.1.drop l.length) (-1)
              rw [dec_true (show (-1 : Int) < st.2.1 by omega), Bool.true_and] at this
              exact this
            simp only [htop]
            by_cases hl0 : (List.length l : Int) > 0
            · rw [dec_true hl0, w64 (n := (List.length l : Int) - 1) (by omega) (by omega), dec_true (show (0 : Int) ≤ (List.length l : Int) - 1 by omega), dec_true (show (List.length l : Int) - 1 < (List.length l : Int) by omega)]
              simp only [cond_true]
              have hlt : decide (st.2.1 < (rd kRec l ((List.length l : Int) - 1)).1) = decide ((rd kRec l ((List.length l : Int) - 1)).1 > st.2.1) := rfl
              rw [hlt]
              cases decide ((rd kRec l ((List.length l : Int) - 1)).1 > st.2.1) with
              | true => exact ⟨_, rfl, rfl, fun e => by cases e⟩
              | false => exact ⟨_, rfl, rfl, fun _ => hg⟩
            · rw [dec_false hl0]
              exact ⟨_, rfl, rfl, fun _ => hg⟩
theorem i_held_step (x : TServer) : L_i_ServerOk_0 P_i_RespOk x = L_s_ServerOk_0 P_s_RespOk x := by
  have e : P_i_RespOk = P_s_RespOk := by funext r; rw [i_RespOk_eq, s_RespOk_eq]
  rw [e]
  rfl
theorem held_ok (x : TServer) (h : x.2.length ≤ 1048576) : ∃ z, loopO (L_s_ServerOk_0 P_s_RespOk x) (0, ()) = some z ∧ (z = .inl () ∨ z = .inr (false, ())) := by
  have key := loopO_first (L_s_ServerOk_0 P_s_RespOk x) (fun i => ((i : Int), ())) x.2.length (fun i => if i < x.2.length then .inr (false, ()) else .inl ()) (fun i => respOkB (rd kHeld x.2 (i : Int)).2) (fun i hi => ?_) ?_
  · refine ⟨_, key, ?_⟩
    split
    · exact .inr rfl
    · exact .inl rfl
  · have g1 : ((i : Int) < (x.2.length : Int)) := by omega
    have g2 : (0 : Int) ≤ (i : Int) := by omega
    simp only [L_s_ServerOk_0, dec_true g1, dec_true g2, cond_true, s_RespOk_eq, bindO, if_pos hi]
    rw [w64 (by omega) (by omega)]
    cases respOkB (rd kHeld x.2 (i : Int)).2 <;> rfl
  · simp [L_s_ServerOk_0]
theorem serverOk_eq (x : TServer) (h : Secs x.1.1.1) (h2 : x.2.length ≤ 1048576) : ∃ b, P_s_ServerOk x = some (b, ()) ∧ P_i_ServerOk x = some (b, ()) ∧ (b = true → P_s_StoreOk x.1 = some (true, ()) ∧ StoreG x.1 ∧ x.2.length ≤ 200) := by
  obtain ⟨z, hz, hz2⟩ := held_ok x h2
  obtain ⟨b, hs, hi, hg⟩ := storeOk_eq x.1 h
  simp only [P_s_ServerOk, B_s_ServerOk, P_i_ServerOk, B_i_ServerOk, i_held_step, hz, hs, hi]
  rcases hz2 with rfl | rfl
  · by_cases hl : (x.2.length : Int) ≤ 200
    · rw [dec_true hl]
      exact ⟨b, rfl, rfl, fun e => ⟨by rw [e], hg e, by omega⟩⟩
    · rw [dec_false hl]
      exact ⟨_, rfl, rfl, fun e => by cases e⟩
  · exact ⟨_, rfl, rfl, fun e => by cases e⟩

theorem rd_set {k : K} {b : List k.T} {i : Nat} (h : i < b.length) (u : k.T) : rd k (b.set i u) (i : Int) = u := by
  rw [rd_nat (xs := b.set i u) (by simpa using h)]
  simp

theorem cloneS_eq (a : List ByteArray) (h : a.length ≤ 1048576) : P_slices_Clone_string_string a = some (a, ()) := by
  simp only [P_slices_Clone_string_string, B_slices_Clone_string_string]
  have e : (bif decide (([] : List ByteArray).length + a.length ≤ 9223372036854775807) then bif decide ((([] : List ByteArray).length + a.length) * 16 ≤ 140737488355328) then some (([] ++ a), ()) else none else none) = some (a, ()) := by
    rw [dec_true (by simp; omega), dec_true (by simp; omega)]
    simp
  rw [e]
  cases a with
  | nil => simp [eqO_self]
  | cons x xs => simp
theorem cloneH_eq (a : List THeld) (h : a.length ≤ 1048576) : P_slices_Clone_impl_Held_impl_Held a = some (a, ()) := by
  simp only [P_slices_Clone_impl_Held_impl_Held, B_slices_Clone_impl_Held_impl_Held]
  have e : (bif decide (([] : List THeld).length + a.length ≤ 9223372036854775807) then bif decide ((([] : List THeld).length + a.length) * 24 ≤ 140737488355328) then some (([] ++ a), ()) else none else none) = some (a, ()) := by
    rw [dec_true (by simp; omega), dec_true (by simp; omega)]
    simp
  rw [e]
  cases a with
  | nil => simp [eqO_self]
  | cons x xs => simp
/-- A disk, a store, a server that is not too large. -/
def DiskS (d : TDisk) : Prop := Secs d.1 ∧ Secs d.2
def StoreS (s : TStore) : Prop := DiskS s.1 ∧ List.length s.2.2.2 ≤ 1048576 ∧ ∀ u ∈ s.2.2.2, List.length u.2.2.1 ≤ 2000000000
def ServS (s : TServer) : Prop := StoreS s.1 ∧ List.length s.2 ≤ 1048576
theorem i_copyDisk_eq (d : TDisk) (h : DiskS d) : P_i_copyDisk d = some (d, ()) := by
  simp only [P_i_copyDisk, B_i_copyDisk, cloneS_eq _ h.1.1, cloneS_eq _ h.2.1, bindO]
theorem s_copyDisk_eq (d : TDisk) (h : DiskS d) : P_s_l12Copy d = some (d, ()) := by
  have h1 := h.1.1
  have h2 := h.2.1
  simp only [P_s_l12Copy, B_s_l12Copy]
  rw [dec_true (by simp; omega), dec_true (by simp; omega), dec_true (by simp; omega), dec_true (by simp; omega)]
  simp
theorem i_copyUp_eq (u : TUp) (h : List.length u.2.2.1 ≤ 2000000000) : P_i_copyUp u = some (u, ()) := by
  simp only [P_i_copyUp, B_i_copyUp, clone_byte_eq _ (show List.length u.2.2.1 ≤ 140737488355328 by omega), bindO]
theorem i_copyStore_eq (s : TStore) (h : StoreS s) : P_i_copyStore s = some (s, ()) := by
  simp only [P_i_copyStore, B_i_copyStore, i_copyDisk_eq _ h.1, bindO]
  have hl := h.2.1
  have key := loopO_count (L_i_copyStore_0 P_i_copyUp s) (fun i => ((i : Int), s.2.1, s.2.2.1, s.1.1, s.1.2, s.2.2.2.take i, ())) s.2.2.2.length (s, ()) (fun i hi => ?_) ?_
  · simpa using key
  · have g1 : ((i : Int) < (s.2.2.2.length : Int)) := by omega
    have g2 : (0 : Int) ≤ (i : Int) := by omega
    simp only [L_i_copyStore_0, dec_true g1, dec_true g2, cond_true]
    rw [rd_nat (k := kUp) (xs := s.2.2.2) hi, i_copyUp_eq _ (h.2.2 _ (List.getElem_mem hi))]
    simp only [bindO]
    rw [dec_true (by simp; omega), dec_true (by simp; omega), w64 (by omega) (by omega), List.take_succ_eq_append_getElem hi]
    rfl
  · simp [L_i_copyStore_0]
theorem s_copyStore_eq (s : TStore) (h : StoreS s) : P_s_l14Copy s = some (s, ()) := by
  simp only [P_s_l14Copy, B_s_l14Copy, s_copyDisk_eq _ h.1, copyUps_eq _ h.2.1 h.2.2, bindO]
theorem i_copyServer_eq (s : TServer) (h : ServS s) : P_i_copyServer s = some (s, ()) := by
  simp only [P_i_copyServer, B_i_copyServer, i_copyStore_eq _ h.1, cloneH_eq _ h.2, bindO]
theorem s_copyServer_eq (s : TServer) (h : ServS s) : P_s_l15Copy s = some (s, ()) := by
  have h2 := h.2
  simp only [P_s_l15Copy, B_s_l15Copy, s_copyStore_eq _ h.1, bindO]
  rw [dec_true (by simp; omega), dec_true (by simp; omega)]
  simp
theorem i_flush_eq (d : TDisk) (h : DiskS d) : P_i_FlushDisk d = some ((d.1, d.1), ()) := by
  simp only [P_i_FlushDisk, B_i_FlushDisk, cloneS_eq _ h.1.1, bindO]
theorem s_flush_eq (d : TDisk) (h : DiskS d) : P_s_FlushDisk d = some ((d.1, d.1), ()) := by
  have h1 := h.1.1
  simp only [P_s_FlushDisk, B_s_FlushDisk]
  rw [dec_true (by simp; omega), dec_true (by simp; omega)]
  simp
theorem s_TopEpoch_eq (d : TDisk) (h : Secs d.1) : P_s_TopEpoch d = some (topL d.1, ()) := by
  have hl := h.1
  simp only [P_s_TopEpoch, B_s_TopEpoch]
  have key := loopO_count (L_s_TopEpoch_0 P_s_GetRec d) (fun i => ((d.1.take i).foldl topOf (-1), (i : Int), ())) d.1.length (topL d.1, ()) (fun i hi => ?_) ?_
  · simpa using key
  · have g1 : ((i : Int) < (d.1.length : Int)) := by omega
    have g2 : (0 : Int) ≤ (i : Int) := by omega
    simp only [L_s_TopEpoch_0, dec_true g1, dec_true g2, cond_true]
    rw [s_GetRec_eq _ (secs_at h hi), w64 (by omega) (by omega)]
    simp only [bindO]
    have e : (d.1.take (i + 1)).foldl topOf (-1) = topOf ((d.1.take i).foldl topOf (-1)) (rd .str d.1 (i : Int)) := by
      rw [List.take_succ_eq_append_getElem hi, List.foldl_append, rd_str hi]
      rfl
    rw [e]
    generalize (d.1.take i).foldl topOf (-1) = t
    unfold topOf
    cases (getRec (rd .str d.1 (i : Int))).2.1
    · rfl
    · cases decide ((getRec (rd .str d.1 (i : Int))).1.1 > t) <;> rfl
  · simp [L_s_TopEpoch_0, topL]
theorem i_TopEpoch_eq (d : TDisk) (h : Secs d.1) : P_i_TopEpoch d = some (topL d.1, ()) := by
  simp only [P_i_TopEpoch, B_i_TopEpoch, i_topFrom_eq _ h, bindO]
theorem getRec_epoch (s : ByteArray) : (getRec s).1.1 ≤ 10000 := by
  unfold getRec
  split
  · rename_i h
    simp only [recGood, Bool.and_eq_true] at h
    exact (recOk_bnd h.1.2).2.1
  · simp [noRec]
theorem topL_le (l : List ByteArray) : -1 ≤ topL l ∧ topL l ≤ 10000 := by
  unfold topL
  have : ∀ (l : List ByteArray) (t : Int), -1 ≤ t ∧ t ≤ 10000 → -1 ≤ l.foldl topOf t ∧ l.foldl topOf t ≤ 10000 := by
    intro l
    induction l with
    | nil => exact fun t h => h
    | cons s l ih =>
      intro t h
      refine ih _ ?_
      have h2 := getRec_epoch s
      unfold topOf
      cases (getRec s).2.1 with
      | false => exact h
      | true =>
        by_cases h3 : (getRec s).1.1 > t
        · rw [dec_true h3]; simp only [cond_true]; omega
        · rw [dec_false h3]; exact h
  exact this l (-1) (by omega)
theorem secs_set {l : List ByteArray} (h : Secs l) (i : Nat) {s : ByteArray} (hs : s.size ≤ 1048576) : Secs (l.set i s) := ⟨by rw [List.length_set]; exact h.1, fun x hx => (List.mem_or_eq_of_mem_set hx).elim (h.2 x) (fun e => by rw [e]; exact hs)⟩
theorem fall_eq (d : TDisk) (k : List Bool) (h : DiskS d) : ∃ d', P_s_FallDisk d k = some (d', ()) ∧ P_i_FallDisk d k = some (d', ()) ∧ DiskS d' := by
  obtain ⟨b, hb, hb2⟩ := s_DiskOk_ok d h.1.1
  have hl := h.1.1
  simp only [P_s_FallDisk, B_s_FallDisk, P_i_FallDisk, B_i_FallDisk, s_copyDisk_eq d h, i_copyDisk_eq d h, diskOk_eq, hb, bindO]
  cases b with
  | false => exact ⟨d, rfl, rfl, h⟩
  | true =>
    have hlen := (hb2 rfl).1
    simp only [Bool.not_true, cond_false]
    have step : ∀ l : Int × List ByteArray × List ByteArray × Unit, 0 ≤ l.1 ∧ l.2.1.length = d.1.length ∧ l.2.2.1.length = d.1.length ∧ Secs l.2.1 ∧ Secs l.2.2.1 →
        (∃ y : Int × List ByteArray × List ByteArray × Unit, L_s_FallDisk_0 k l = some (.inl y) ∧ (0 ≤ y.1 ∧ y.2.1.length = d.1.length ∧ y.2.2.1.length = d.1.length ∧ Secs y.2.1 ∧ Secs y.2.2.1) ∧ ((d.1.length : Int) - y.1).toNat < ((d.1.length : Int) - l.1).toNat) ∨
        ∃ z, L_s_FallDisk_0 k l = some (.inr z) ∧ DiskS z.1 := by
      intro l ⟨h0, h1, h2, h3, h4⟩
      simp only [L_s_FallDisk_0, h1, h2]
      by_cases hi : l.1 < (d.1.length : Int)
      · obtain ⟨i, hn⟩ : ∃ i : Nat, l.1 = (i : Int) := ⟨l.1.toNat, by omega⟩
        rw [hn] at hi h0 ⊢
        have s1 := secs_at h3 (i := i) (by omega)
        have s2 := secs_at h4 (i := i) (by omega)
        rw [dec_true hi, dec_true h0, w64 (by omega) (by omega)]
        simp only [cond_true, Int.toNat_natCast]
        refine .inl ?_
        by_cases hk : (i : Int) < (k.length : Int)
        · rw [dec_true hk]
          simp only [cond_true, bindO]
          cases rd .bool k (i : Int) with
          | true => exact ⟨_, rfl, ⟨by simp only; omega, h1, by simp [h2], h3, secs_set h4 i s1⟩, by simp only; omega⟩
          | false => exact ⟨_, rfl, ⟨by simp only; omega, by simp [h1], h2, secs_set h3 i s2, h4⟩, by simp only; omega⟩
        · rw [dec_false hk]
          simp only [cond_false, bindO]
          exact ⟨_, rfl, ⟨by simp only; omega, by simp [h1], h2, secs_set h3 i s2, h4⟩, by simp only; omega⟩
      · rw [dec_false hi]
        exact .inr ⟨_, rfl, h3, h4⟩
    have h0 : 0 ≤ (0 : Int) ∧ d.1.length = d.1.length ∧ d.2.length = d.1.length ∧ Secs d.1 ∧ Secs d.2 := ⟨by omega, rfl, hlen.symm, h.1, h.2⟩
    obtain ⟨z, e, hz⟩ := loopO_ind (L_s_FallDisk_0 k) (fun l => ((d.1.length : Int) - l.1).toNat) _ (fun z => DiskS z.1) step (0, d.1, d.2, ()) h0
    refine ⟨z.1, e, ?_, hz⟩
    rw [loopO_congr (g := L_s_FallDisk_0 k) (fun l => 0 ≤ l.1 ∧ l.2.1.length = d.1.length ∧ l.2.2.1.length = d.1.length ∧ Secs l.2.1 ∧ Secs l.2.2.1) (fun l hl => ?_) (fun l y hl ey => ?_) h0]
    · exact e
    · simp only [L_i_FallDisk_0, L_s_FallDisk_0, hl.2.1]
    · have e3 : L_i_FallDisk_0 (d, ()) k l = L_s_FallDisk_0 k l := by simp only [L_i_FallDisk_0, L_s_FallDisk_0, hl.2.1]
      rw [e3] at ey
      rcases step l hl with ⟨y', e1, e2, _⟩ | ⟨z', e1, _⟩
      · rw [e1] at ey; injection ey with ey; injection ey with ey; subst ey; exact e2
      · rw [e1] at ey; injection ey with ey; cases ey

def reqMost (op : Int) : Int := if op = 1 then 1000000000 else if op = 3 then 1000000000 else if op = 4 then 4294967295 else 0
def reqOkB (r : TReq) : Bool := decide (1 ≤ r.1 ∧ r.1 ≤ 6) && idB r.2.1 && decide (0 ≤ r.2.2 ∧ r.2.2 ≤ reqMost r.1)
theorem s_ReqOk_eq (r : TReq) (h : r.2.1.size ≤ maxLen) : P_s_ReqOk r = some (reqOkB r, ()) := by
  simp only [P_s_ReqOk, B_s_ReqOk, l1In_eq, l11Id_eq _ h, bindO, reqOkB, P_s_l11Most, B_s_l11Most, reqMost]
  cases decide (1 ≤ r.1 ∧ r.1 ≤ 6)
  · rfl
  cases idB r.2.1
  · rfl
  simp only [Bool.not_true, cond_false, bindS, Bool.true_and]
  have hz : decide (0 ≤ r.2.2 ∧ r.2.2 ≤ 0) = decide (r.2.2 = 0) := by
    by_cases h0 : r.2.2 = 0
    · rw [dec_true h0, dec_true (by omega)]
    · rw [dec_false h0, dec_false (by omega)]
  by_cases h1 : r.1 = 1
  · simp [h1]
  by_cases h3 : r.1 = 3
  · simp [h3]
  by_cases h4 : r.1 = 4
  · simp [h4]
  simp [h1, h3, h4]
  rw [Bool.eq_iff_iff]
  simp
  omega


theorem strOf_inj {a b : List Int} (ha : Byt a) (hb : Byt b) (h : (strOf a).toList = (strOf b).toList) : a = b := by
  rw [ByteArray.toList_eq, ByteArray.toList_eq] at h
  have h2 : (a.map fun n => UInt8.ofNat n.toNat) = b.map fun n => UInt8.ofNat n.toNat := h
  have hl : a.length = b.length := by simpa using congrArg List.length h2
  refine List.ext_getElem hl fun i h1 h3 => ?_
  have h4 := congrArg (fun l => l[i]?) h2
  simp only [List.getElem?_map, List.getElem?_eq_getElem h1, List.getElem?_eq_getElem h3, Option.map_some, Option.some.injEq] at h4
  exact u8_inj (ha _ (List.getElem_mem h1)) (hb _ (List.getElem_mem h3)) h4
theorem str_inj {a b : ByteArray} (h : a.toList = b.toList) : a = b := by
  rw [ByteArray.toList_eq, ByteArray.toList_eq] at h
  obtain ⟨⟨a⟩⟩ := a
  obtain ⟨⟨b⟩⟩ := b
  have h : a = b := h
  rw [h]
theorem sameUp_eq {a b : TUp} (ha : Byt a.2.2.1) (hb : Byt b.2.2.1) (h : sameUpB a b = true) : a = b := by
  simp only [sameUpB, Bool.and_eq_true, beq_iff_eq, decide_eq_true_eq] at h
  obtain ⟨⟨⟨h1, h2⟩, h3⟩, h4⟩ := h
  obtain ⟨a1, a2, a3, a4⟩ := a
  obtain ⟨b1, b2, b3, b4⟩ := b
  simp only at h1 h2 h3 h4 ha hb
  rw [str_inj h1, h2, h3, strOf_inj ha hb h4]
theorem sameUps_eq {a b : List TUp} (ha : ∀ u ∈ a, Byt u.2.2.1) (hb : ∀ u ∈ b, Byt u.2.2.1) (h : sameUpsB a b = true) : a = b := by
  simp only [sameUpsB, Bool.and_eq_true, decide_eq_true_eq, List.all_eq_true, List.mem_range] at h
  refine List.ext_getElem h.1 fun i h1 h3 => ?_
  have h4 := h.2 i h1
  rw [rd_nat (k := kUp) (xs := a) h1, rd_nat (k := kUp) (xs := b) h3] at h4
  exact sameUp_eq (ha _ (List.getElem_mem h1)) (hb _ (List.getElem_mem h3)) h4
/-- A store with one record more. -/
def wrote (st : TStore) (r : TRec) (us : List TUp) : TStore := ((st.1.1.set st.2.2.1.toNat (putRec r), st.1.2), st.2.1, st.2.2.1 + 1, us)
theorem s_write_eq (st : TStore) (a b kind : Int) (id : ByteArray) (n : Int) (data : List Int) (hU : Ups st.2.2.2) (hr : recOkB (st.2.1, st.2.2.1, kind, id, n, data) = true) (hb : Byt data) (h0 : 0 ≤ st.2.2.1) (h1 : st.2.2.1 < (st.1.1.length : Int)) (hl : st.1.1.length ≤ 1048576)
    (us : List TUp) (hf : foldOne st.2.2.2 (st.2.1, st.2.2.1, kind, id, n, data) = some us) : P_s_l14Write_r0_4 st (a, b, kind, id, n, data) = some (wrote st (st.2.1, st.2.2.1, kind, id, n, data) us, ()) := by
  have hbd := recOk_bnd hr
  simp only at hbd
  simp only [P_s_l14Write_r0_4, B_s_l14Write_r0_4]
  rw [s_l13Put_eq (st.2.1, st.2.2.1, kind, id, n, data) (by simp only; omega) (by simp only; omega) hb, dec_true h0, dec_true h1]
  simp only [bindO, cond_true]
  obtain ⟨x, hx, hx2⟩ := s_one_eq st.2.2.2 (st.2.1, st.2.2.1, kind, id, n, data) hU (by simp only; omega)
  have hI : foldI st.2.2.2 (st.2.1, st.2.2.1, kind, id, n, data) = (us, true, ()) := by unfold foldI; rw [hf]
  rw [hI] at hx hx2
  rw [hx, hx2 rfl, w64 (by omega) (by omega)]
  rfl
theorem putRec_size {r : TRec} (h : recOkB r = true) : (putRec r).size ≤ 1000 := by
  have hb := recOk_bnd h
  unfold putRec
  rw [strOf_size, List.length_append, recB_len, big_len]
  omega
theorem wrote_disk {st : TStore} (h : DiskS st.1) {r : TRec} (hr : recOkB r = true) (us : List TUp) : DiskS (wrote st r us).1 := ⟨secs_set h.1 _ (by have := putRec_size hr; omega), h.2⟩
theorem s_at_eq (us : List TUp) (id : ByteArray) (h : Ups us) : P_s_l14At us id = some (if upHas us id = true then (upIns us id : Int) else -1, ()) := by
  have hl := h.2.1
  rw [l14At_eq us id (by simp only [maxLen]; omega)]
  cases hh : upHas us id with
  | true =>
    obtain ⟨hlt, _⟩ := upHas_iff.1 hh
    rw [upIx_has h.1 hh, if_pos hlt, if_pos rfl]
  | false => rw [upIx_not h.1 hh, if_neg (Nat.lt_irrefl _), if_neg (by simp)]
theorem s_left_eq (st : TStore) (h0 : 0 ≤ st.2.2.1) (h1 : st.2.2.1 ≤ (st.1.1.length : Int)) (hl : st.1.1.length ≤ 1048576) : P_s_l14Left st = some ((st.1.1.length : Int) - st.2.2.1, ()) := by
  simp only [P_s_l14Left, B_s_l14Left]
  rw [w64 (by omega) (by omega)]
def newDisk (n : Int) : TDisk := if 0 ≤ n ∧ n ≤ 200 then (List.replicate n.toNat ⟨#[]⟩, List.replicate n.toNat ⟨#[]⟩) else ([], [])
theorem s_DiskNew_eq (n : Int) : P_s_DiskNew n = some (newDisk n, ()) := by
  simp only [P_s_DiskNew, B_s_DiskNew, newDisk]
  by_cases h : 0 ≤ n ∧ n ≤ 200
  · rw [if_pos h]
    have key := loopO_count (L_s_DiskNew_0 n) (fun i => ((i : Int), List.replicate i ⟨#[]⟩, List.replicate i ⟨#[]⟩, ())) n.toNat ((List.replicate n.toNat ⟨#[]⟩, List.replicate n.toNat ⟨#[]⟩), ()) (fun i hi => ?_) ?_
    · exact key
    · have h1 : (i : Int) < n := by omega
      simp only [L_s_DiskNew_0, dec_true h1, dec_true h.2, cond_true, bindS]
      rw [dec_true (by simp; omega), dec_true (by simp; omega)]
      simp only [cond_true]
      rw [w64 (by omega) (by omega), List.replicate_succ']
      rfl
    · have h1 : ¬ ((n.toNat : Int) < n) := by omega
      simp only [L_s_DiskNew_0, dec_false h1, cond_false, bindS]
  · rw [if_neg h]
    refine loopO_end ?_
    simp only [L_s_DiskNew_0]
    by_cases h1 : (0 : Int) < n
    · rw [dec_true h1, dec_false (show ¬ n ≤ 200 by omega)]; rfl
    · rw [dec_false h1]; rfl
def newServer (n : Int) : TServer := ((newDisk n, 0, 0, []), [])
theorem s_ServerNew_eq (n : Int) : P_s_ServerNew n = some (newServer n, ()) := by
  simp only [P_s_ServerNew, B_s_ServerNew, P_s_StoreNew, B_s_StoreNew, s_DiskNew_eq, bindO, newServer]

theorem bO {α β : Type} (x : α) (f : α → Option β) : bindO (some x) f = f x := rfl
theorem l1Once_ok (c : TL1Cur) (n : Int) (h : Cur c) (hn : 0 < n ∧ n < 9223372036854775808) : ∃ b c', P_s_l1Once c n = some (b, c', ()) ∧ Cur c' := by
  obtain ⟨r, c', e, hc, _⟩ := l1Below_ok c n h hn
  simp only [P_s_l1Once, B_s_l1Once, e, bindO]
  exact ⟨_, _, rfl, hc⟩
theorem l12Kept_ok (c : TL1Cur) (h : Cur c) : ∃ k c', P_s_l12Kept_r0_0 c = some (k, c', ()) ∧ Cur c' := by
  obtain ⟨n, c1, q1, h1, n0, n1⟩ := l1Below_ok c 8 h (by omega)
  simp only [P_s_l12Kept_r0_0, B_s_l12Kept_r0_0, q1, bindO]
  obtain ⟨z, e, hz⟩ := loopO_ind (L_s_l12Kept_r0_0_0 P_s_l1Once) (fun l => l.1.toNat) (fun l => l.1 ≤ 8 ∧ Cur (l.2.1, (l.2.2.1, l.2.2.2.1)) ∧ (List.length l.2.2.2.2.1 : Int) + l.1 ≤ 8) (fun z => Cur z.2.1) (fun l hl => by
    obtain ⟨g0, g1, g2⟩ := hl
    simp only [L_s_l12Kept_r0_0_0]
    by_cases hi : l.1 > 0
    · obtain ⟨b, c3, q3, h3⟩ := l1Once_ok (l.2.1, (l.2.2.1, l.2.2.2.1)) 2 g1 (by omega)
      rw [dec_true hi]
      simp only [cond_true, q3, bindO]
      rw [dec_true (by simp; omega), dec_true (by simp; omega), w64 (by omega) (by omega)]
      exact .inl ⟨_, rfl, ⟨by simp only; omega, h3, by simp; omega⟩, by simp only; omega⟩
    · rw [dec_false hi]
      exact .inr ⟨_, rfl, g1⟩) (n, c1.1, c1.2.1, c1.2.2, [], ()) ⟨by simp only; omega, h1, by simp; omega⟩
  exact ⟨z.1, z.2.1, e, hz⟩

/-- An upload changed in place stays in its place. -/
theorem upIns_set {us : List TUp} {id : ByteArray} (hh : upHas us id = true) (u : TUp) (hu : u.1 = (rd kUp us (upIns us id : Int)).1) : upHas (us.set (upIns us id) u) id = true ∧ upIns (us.set (upIns us id) u) id = upIns us id ∧ rd kUp (us.set (upIns us id) u) (upIns us id : Int) = u := by
  obtain ⟨hlt, hid⟩ := upHas_iff.1 hh
  rw [rd_nat (k := kUp) (xs := us) hlt] at hu
  have hk : ∀ q (hq : q < us.length), ((us.set (upIns us id) u)[q]'(by simpa using hq)).1 = us[q].1 := fun q hq => by
    rw [List.getElem_set]
    split
    · rename_i e; subst e; exact hu
    · rfl
  have hrd : rd kUp (us.set (upIns us id) u) (upIns us id : Int) = u := rd_set (k := kUp) hlt u
  have e1 : upIns (us.set (upIns us id) u) id = upIns us id := by
    refine firstN_uniq _ (us.set (upIns us id) u).length _ (by simp; omega) (fun j hj => ?_) (fun _ => ?_)
    · rw [rd_nat (k := kUp) (xs := us.set (upIns us id) u) (by simp; omega), hk j (by omega)]
      exact upIns_lo hj
    · rw [hrd, hu]
      exact upIns_at hlt
  refine ⟨?_, e1, hrd⟩
  unfold upHas
  rw [e1, hrd, hu, hid]
  simp
  omega


theorem topL_ge {l : List ByteArray} {s : ByteArray} (hs : s ∈ l) (hk : (getRec s).2.1 = true) : (getRec s).1.1 ≤ topL l := by
  have h := foldl_top (getRec s).1.1 l (-1)
  by_cases hx : (getRec s).1.1 ≤ topL l
  · exact hx
  · exfalso
    have h1 : decide (l.foldl topOf (-1) < (getRec s).1.1) = true := decide_eq_true (by have : topL l = l.foldl topOf (-1) := rfl; omega)
    rw [h1] at h
    have h2 := (Bool.and_eq_true _ _ ▸ h.symm : _ ∧ _).2
    have h3 := List.all_eq_true.1 h2 s hs
    simp only [newer, hk, Bool.true_and] at h3
    rw [dec_true (by omega)] at h3
    cases h3
def diskB (d : TDisk) : Bool := decide (d.1.length = d.2.length ∧ d.1.length ≤ 200) && ((List.range d.1.length).all fun i => !decide (((rd .str d.1 (i : Int)).size : Int) > 64) && !decide (((rd .str d.2 (i : Int)).size : Int) > 64))
theorem s_DiskOk_eq (d : TDisk) : P_s_DiskOk d = some (diskB d, ()) := by
  simp only [P_s_DiskOk, B_s_DiskOk, diskB]
  by_cases h1 : (d.1.length : Int) = (d.2.length : Int)
  · rw [dec_true h1]
    by_cases h2 : (d.1.length : Int) > 200
    · rw [dec_true h2, dec_false (show ¬ (d.1.length = d.2.length ∧ d.1.length ≤ 200) by omega)]
      rfl
    · rw [dec_false h2, dec_true (show d.1.length = d.2.length ∧ d.1.length ≤ 200 by omega)]
      simp only [Bool.not_true, cond_false, bindS, Bool.true_and]
      refine loopB (L_s_DiskOk_0 d) d.1.length (by simp only [maxLen]; omega) (fun i => !decide (((rd .str d.1 (i : Int)).size : Int) > 64) && !decide (((rd .str d.2 (i : Int)).size : Int) > 64)) (fun i hi => ?_) (by simp [L_s_DiskOk_0])
      have g1 : ((i : Int) < (d.1.length : Int)) := by omega
      have g2 : (0 : Int) ≤ (i : Int) := by omega
      have g3 : ((i : Int) < (d.2.length : Int)) := by omega
      simp only [L_s_DiskOk_0, dec_true g1, dec_true g2, dec_true g3, cond_true]
      cases decide (((rd .str d.1 (i : Int)).size : Int) > 64) <;> cases decide (((rd .str d.2 (i : Int)).size : Int) > 64) <;> rfl
  · rw [dec_false h1, dec_false (show ¬ (d.1.length = d.2.length ∧ d.1.length ≤ 200) by omega)]
    rfl
theorem diskB_now {d : TDisk} (h : diskB d = true) : diskB (d.1, d.1) = true := by
  simp only [diskB, Bool.and_eq_true] at h ⊢
  refine ⟨decide_eq_true ⟨trivial, (of_decide_eq_true h.1).2⟩, List.all_eq_true.2 fun i hi => ?_⟩
  have := List.all_eq_true.1 h.2 i hi
  simp only [Bool.and_eq_true] at this ⊢
  exact ⟨this.1, this.1⟩
theorem sameUpsB_refl (us : List TUp) : sameUpsB us us = true := by
  simp only [sameUpsB, Bool.and_eq_true]
  refine ⟨decide_eq_true trivial, List.all_eq_true.2 fun i hi => ?_⟩
  simp [sameUpB]
theorem i_open_good (d : TDisk) (h : DiskS d) (l : List TRec) (us : List TUp) (hs : P_i_ScanRecs d = some (l, ())) (hll : l.length ≤ d.1.length) (hrg : ∀ r ∈ l, RecG r) (hf : foldRecs l = (us, true, ())) (hd : diskB d = true) (ht : topL d.1 + 1 ≤ 10000) :
    P_i_OpenStore d = some ((d, (topL d.1 + 1, ((List.length l : Int), us))), true, ()) := by
  have hl := h.1.1
  have htop := topL_le d.1
  have hfi := i_FoldRecs_eq l (by simp only [maxLen]; omega) hrg
  simp only [P_i_OpenStore, B_i_OpenStore, diskOk_eq, s_DiskOk_eq, hd, hs, hfi, hf, i_TopEpoch_eq d h.1, i_copyDisk_eq d h, bindO, bindS, Bool.not_true, cond_false]
  rw [w64 (n := topL d.1 + 1) (by omega) (by omega), dec_false (show ¬ topL d.1 + 1 > 10000 by omega)]
  rfl
theorem sameBytes_refl (a : List Int) (h : a.length ≤ maxLen) : P_w_sameBytes a a = some (true, ()) := by
  simp only [P_w_sameBytes, B_w_sameBytes, decide_true, Bool.not_true, cond_false]
  have e := loopB (L_w_sameBytes_0 a a) a.length h (fun _ => true) (fun i hi => by
    have g1 : ((i : Int) < (a.length : Int)) := by omega
    have g2 : (0 : Int) ≤ (i : Int) := by omega
    simp only [L_w_sameBytes_0, dec_true g1, dec_true g2, cond_true, decide_true, Bool.not_true, cond_false]) (by simp [L_w_sameBytes_0])
  rw [e]
  simp
theorem sameUps_refl (us : List TUp) (h : Ups us) : P_w_sameUps us us = some (true, ()) := by
  have hul := h.2.1
  simp only [P_w_sameUps, B_w_sameUps, decide_true, Bool.not_true, cond_false]
  have e := loopB (L_w_sameUps_0 P_w_sameBytes us us) us.length (by simp only [maxLen]; omega) (fun _ => true) (fun i hi => by
    have g1 : ((i : Int) < (us.length : Int)) := by omega
    have g2 : (0 : Int) ≤ (i : Int) := by omega
    have hdl := ups_dat h _ (List.getElem_mem hi)
    have hb := sameBytes_refl us[i].2.2.1 (by simp only [maxLen]; omega)
    simp only [L_w_sameUps_0, dec_true g1, dec_true g2, cond_true, rd_nat (k := kUp) (xs := us) hi, beq_self_eq_true, decide_true, Bool.not_true, cond_false]
    rw [hb]
    rfl) (by simp [L_w_sameUps_0])
  rw [e]
  simp

def catUp (us : List TUp) (id : ByteArray) (ch : List Int) : List TUp :=
  us.set (upIns us id) ((rd kUp us (upIns us id : Int)).1, (rd kUp us (upIns us id : Int)).2.1, (rd kUp us (upIns us id : Int)).2.2.1 ++ ch, (rd kUp us (upIns us id : Int)).2.2.2)
def putOne (st : TStore) (id : ByteArray) (n : Int) (ch : List Int) : TStore := wrote st (st.2.1, st.2.2.1, 2, id, n, ch) (catUp st.2.2.2 id ch)
/-- The store behind the first pieces. -/
def putAt (st : TStore) (id : ByteArray) (off : Int) (dat : List Int) : Nat → TStore
  | 0 => st
  | j + 1 => putOne (putAt st id off dat j) id (off + ((j * 24 : Nat) : Int)) (pieceL 24 dat j)
def nPc (dat : List Int) : Nat := (dat.length + 24 - 1) / 24
structure PutC (st : TStore) (id : ByteArray) (off : Int) (dat : List Int) : Prop where
  idok : idB id = true
  ep : 0 ≤ st.2.1 ∧ st.2.1 ≤ 10000
  nx : 0 ≤ st.2.2.1 ∧ st.2.2.1 + (nPc dat : Int) ≤ (st.1.1.length : Int)
  len : st.1.1.length ≤ 200
  dk : DiskS st.1
  up : Ups st.2.2.2
  has : upHas st.2.2.2 id = true
  nd : (rd kUp st.2.2.2 (upIns st.2.2.2 id : Int)).2.2.2 = false
  at' : off = (List.length (rd kUp st.2.2.2 (upIns st.2.2.2 id : Int)).2.2.1 : Int)
  fits : off + (dat.length : Int) ≤ (rd kUp st.2.2.2 (upIns st.2.2.2 id : Int)).2.1
  byt : Byt dat
  lo : 1 ≤ dat.length
structure PutI (st : TStore) (id : ByteArray) (off : Int) (dat : List Int) (j : Nat) (s : TStore) : Prop where
  ep : s.2.1 = st.2.1
  nx : s.2.2.1 = st.2.2.1 + (j : Int)
  len : s.1.1.length = st.1.1.length
  dk : DiskS s.1
  up : Ups s.2.2.2
  has : upHas s.2.2.2 id = true
  ix : upIns s.2.2.2 id = upIns st.2.2.2 id
  val : rd kUp s.2.2.2 (upIns s.2.2.2 id : Int) = ((rd kUp st.2.2.2 (upIns st.2.2.2 id : Int)).1, (rd kUp st.2.2.2 (upIns st.2.2.2 id : Int)).2.1, (rd kUp st.2.2.2 (upIns st.2.2.2 id : Int)).2.2.1 ++ dat.take (j * 24), false)
theorem pieceL_len (dat : List Int) (j : Nat) (h : j * 24 < dat.length) : 1 ≤ (pieceL 24 dat j).length ∧ (pieceL 24 dat j).length ≤ 24 ∧ (pieceL 24 dat j).length = min (j * 24 + 24) dat.length - j * 24 := by
  have e : (pieceL 24 dat j).length = min (j * 24 + 24) dat.length - j * 24 := by unfold pieceL; rw [List.length_drop, List.length_take]
  rw [e]
  refine ⟨by omega, by omega, rfl⟩
theorem pieceL_next (dat : List Int) (j : Nat) : dat.take (j * 24) ++ pieceL 24 dat j = dat.take ((j + 1) * 24) := by
  have h := List.take_append_drop (j * 24) (dat.take (j * 24 + 24))
  rw [List.take_take, Nat.min_eq_left (by omega)] at h
  rw [show (j + 1) * 24 = j * 24 + 24 by omega]
  exact h
theorem nPc_lt {dat : List Int} {j : Nat} : j < nPc dat ↔ j * 24 < dat.length := by
  unfold nPc
  omega
theorem put_step {st : TStore} {id : ByteArray} {off : Int} {dat : List Int} (hc : PutC st id off dat) {j : Nat} {s : TStore} (h : PutI st id off dat j s) (hj : j < nPc dat) :
    recOkB (s.2.1, s.2.2.1, 2, id, off + ((j * 24 : Nat) : Int), pieceL 24 dat j) = true ∧ foldOne s.2.2.2 (s.2.1, s.2.2.1, 2, id, off + ((j * 24 : Nat) : Int), pieceL 24 dat j) = some (catUp s.2.2.2 id (pieceL 24 dat j)) ∧
      PutI st id off dat (j + 1) (putOne s id (off + ((j * 24 : Nat) : Int)) (pieceL 24 dat j)) := by
  obtain ⟨p1, p2, p3⟩ := pieceL_len dat j (nPc_lt.1 hj)
  have hj2 := nPc_lt.1 hj
  have hlen0 : (List.length (dat.take (j * 24)) : Int) = ((j * 24 : Nat) : Int) := by rw [List.length_take]; omega
  obtain ⟨hlt, _⟩ := upHas_iff.1 hc.has
  have hu := hc.up.2.2 _ (List.getElem_mem hlt)
  rw [← rd_nat (k := kUp) hlt] at hu
  have hu1 := hu.1
  have hu2 := hu.2.1
  have hat := hc.at'
  have hft := hc.fits
  have hn1 := hc.nx.1
  have hn2 := hc.nx.2
  have hl := hc.len
  have hnx := h.nx
  have hbp : Byt (pieceL 24 dat j) := byt_drop (byt_take hc.byt _) _
  have hr : recOkB (s.2.1, s.2.2.1, 2, id, off + ((j * 24 : Nat) : Int), pieceL 24 dat j) = true := by
    simp only [recOkB, hc.idok, h.ep]
    rw [dec_true hc.ep, dec_true (show 0 ≤ s.2.2.1 ∧ s.2.2.1 ≤ 199 by omega), if_neg (by omega), if_pos trivial, dec_true (show 0 ≤ off + ((j * 24 : Nat) : Int) ∧ off + ((j * 24 : Nat) : Int) ≤ 1000000000 by omega), dec_true (show 1 ≤ (List.length (pieceL 24 dat j) : Int) ∧ (List.length (pieceL 24 dat j) : Int) ≤ 24 by omega)]
    rfl
  have hf : foldOne s.2.2.2 (s.2.1, s.2.2.1, 2, id, off + ((j * 24 : Nat) : Int), pieceL 24 dat j) = some (catUp s.2.2.2 id (pieceL 24 dat j)) := by
    have e1 : (List.length (rd kUp s.2.2.2 (upIns s.2.2.2 id : Int)).2.2.1 : Int) = off + ((j * 24 : Nat) : Int) := by
      rw [h.val]; simp only [List.length_append]; omega
    have e2 : (rd kUp s.2.2.2 (upIns s.2.2.2 id : Int)).2.2.2 = false := by rw [h.val]
    have e3 : @Eq Int (rd kUp s.2.2.2 (upIns s.2.2.2 id : Int)).2.1 (rd kUp st.2.2.2 (upIns st.2.2.2 id : Int)).2.1 := by rw [h.val]
    simp only [foldOne, h.has, e2, catUp]
    rw [if_neg (by omega), if_neg (by simp), if_pos trivial, if_neg (fun hx => by
      rcases hx with hx | hx | hx
      · cases hx
      · exact hx e1.symm
      · have hx2 : (List.length (rd kUp s.2.2.2 (upIns s.2.2.2 id : Int)).2.2.1 : Int) + (List.length (pieceL 24 dat j) : Int) > (rd kUp st.2.2.2 (upIns st.2.2.2 id : Int)).2.1 := by rw [← e3]; exact hx
        omega)]
  have hus := foldOne_ups h.up ⟨hr, hbp⟩ hf
  obtain ⟨k1, k2, k3⟩ := upIns_set h.has ((rd kUp s.2.2.2 (upIns s.2.2.2 id : Int)).1, (rd kUp s.2.2.2 (upIns s.2.2.2 id : Int)).2.1, (rd kUp s.2.2.2 (upIns s.2.2.2 id : Int)).2.2.1 ++ pieceL 24 dat j, (rd kUp s.2.2.2 (upIns s.2.2.2 id : Int)).2.2.2) rfl
  refine ⟨hr, hf, h.ep, ?_, ?_, wrote_disk h.dk hr _, hus, k1, k2.trans h.ix, ?_⟩
  · show s.2.2.1 + 1 = st.2.2.1 + ((j + 1 : Nat) : Int)
    omega
  · show (s.1.1.set _ _).length = _
    rw [List.length_set]; exact h.len
  · show rd kUp (s.2.2.2.set (upIns s.2.2.2 id) _) ((upIns (s.2.2.2.set (upIns s.2.2.2 id) _) id : Nat) : Int) = _
    rw [k2, k3, h.val]
    simp only [List.append_assoc, pieceL_next]
theorem putI_0 {st : TStore} {id : ByteArray} {off : Int} {dat : List Int} (hc : PutC st id off dat) : PutI st id off dat 0 st :=
  ⟨rfl, by simp, rfl, hc.dk, hc.up, hc.has, rfl, by
    have e2 : (rd kUp st.2.2.2 (upIns st.2.2.2 id : Int)).2.2.2 = false := hc.nd
    rw [Nat.zero_mul, List.take_zero, List.append_nil, ← e2]⟩
theorem putI_at {st : TStore} {id : ByteArray} {off : Int} {dat : List Int} (hc : PutC st id off dat) : ∀ j, j ≤ nPc dat → PutI st id off dat j (putAt st id off dat j)
  | 0, _ => putI_0 hc
  | j + 1, hj => (put_step hc (putI_at hc j (by omega)) (by omega)).2.2
theorem s_put_loop {st : TStore} {id : ByteArray} {off : Int} {dat : List Int} (hc : PutC st id off dat) (h400 : dat.length ≤ 400) :
    loopO (L_s_PutUp_r99_0_0 P_s_l14Write_r0_4 dat id off) (0, st.2.1, st.2.2.1, st.2.2.2, st.1.1, st.1.2, ()) =
      some ((putAt st id off dat (nPc dat)).2.1, (putAt st id off dat (nPc dat)).2.2.1, (putAt st id off dat (nPc dat)).2.2.2, (putAt st id off dat (nPc dat)).1.1, (putAt st id off dat (nPc dat)).1.2, ()) := by
  obtain ⟨z, e, hz⟩ := loopO_ind (L_s_PutUp_r99_0_0 P_s_l14Write_r0_4 dat id off) (fun l => ((dat.length : Int) + 24 - l.1).toNat)
    (fun l => ∃ j : Nat, j ≤ nPc dat ∧ l = (((j * 24 : Nat) : Int), (putAt st id off dat j).2.1, (putAt st id off dat j).2.2.1, (putAt st id off dat j).2.2.2, (putAt st id off dat j).1.1, (putAt st id off dat j).1.2, ()))
    (fun z => z = ((putAt st id off dat (nPc dat)).2.1, (putAt st id off dat (nPc dat)).2.2.1, (putAt st id off dat (nPc dat)).2.2.2, (putAt st id off dat (nPc dat)).1.1, (putAt st id off dat (nPc dat)).1.2, ())) (fun l hl => by
      obtain ⟨j, hj, rfl⟩ := hl
      have hI := putI_at hc j hj
      have hl := hc.len
      have hn1 := hc.nx.1
      have hn2 := hc.nx.2
      have hnx := hI.nx
      have hle := hI.len
      obtain ⟨hlt', _⟩ := upHas_iff.1 hc.has
      have hu := hc.up.2.2 _ (List.getElem_mem hlt')
      rw [← rd_nat (k := kUp) hlt'] at hu
      have hu2 := hu.2.1
      have hat := hc.at'
      have hft := hc.fits
      simp only [L_s_PutUp_r99_0_0]
      by_cases hi : j < nPc dat
      · have hj2 := nPc_lt.1 hi
        obtain ⟨hr, hf, hn⟩ := put_step hc hI hi
        obtain ⟨p1, p2, p3⟩ := pieceL_len dat j hj2
        rw [dec_true (show ((j * 24 : Nat) : Int) < (dat.length : Int) by omega), w64 (n := ((j * 24 : Nat) : Int) + 24) (by omega) (by omega)]
        obtain ⟨to, hto, hto2⟩ : ∃ to : Int, (bif decide (((j * 24 : Nat) : Int) + 24 > (dat.length : Int)) then some ((dat.length : Int), ()) else some (((j * 24 : Nat) : Int) + 24, ())) = some (to, ()) ∧ (to.toNat = min (j * 24 + 24) dat.length ∧ 0 ≤ to) := by
          by_cases hcc : ((j * 24 : Nat) : Int) + 24 > (dat.length : Int)
          · rw [dec_true hcc]; exact ⟨_, rfl, by omega, by omega⟩
          · rw [dec_false hcc]; exact ⟨_, rfl, by omega, by omega⟩
        simp only [cond_true, hto, bO]
        have hpc : (dat.take to.toNat).drop ((j * 24 : Nat) : Int).toNat = pieceL 24 dat j := by
          rw [hto2.1, Int.toNat_natCast, pieceL, List.take_eq_take_iff.2 (show min (min (j * 24 + 24) dat.length) dat.length = min (j * 24 + 24) dat.length by omega)]
        rw [hpc, dec_true (show 0 ≤ ((j * 24 : Nat) : Int) by omega), dec_true (show ((j * 24 : Nat) : Int) ≤ to by omega), dec_true (show to ≤ (dat.length : Int) by omega), dec_true (by simp; omega), dec_true (by simp; omega), w64 (n := off + ((j * 24 : Nat) : Int)) (by omega) (by omega)]
        simp only [cond_true, List.nil_append]
        have hw := s_write_eq (putAt st id off dat j) 0 0 2 id (off + ((j * 24 : Nat) : Int)) (pieceL 24 dat j) hI.up hr (byt_drop (byt_take hc.byt _) _) (by omega) (by omega) (by omega) _ hf
        have hw' : P_s_l14Write_r0_4 (((putAt st id off dat j).1.1, (putAt st id off dat j).1.2), ((putAt st id off dat j).2.1, ((putAt st id off dat j).2.2.1, (putAt st id off dat j).2.2.2))) (0, (0, (2, (id, (off + ((j * 24 : Nat) : Int), pieceL 24 dat j))))) = some (putAt st id off dat (j + 1), ()) := hw
        rw [hw']
        simp only [bO]
        refine .inl ⟨_, rfl, ⟨j + 1, by omega, ?_⟩, by simp only; omega⟩
        rw [show ((j * 24 : Nat) : Int) + 24 = (((j + 1) * 24 : Nat) : Int) by omega]
      · have : j = nPc dat := by omega
        subst this
        have : ¬ nPc dat * 24 < dat.length := fun h => hi (nPc_lt.2 h)
        rw [dec_false (show ¬ ((nPc dat * 24 : Nat) : Int) < (dat.length : Int) by omega)]
        exact .inr ⟨_, rfl, rfl⟩) (0, st.2.1, st.2.2.1, st.2.2.2, st.1.1, st.1.2, ()) ⟨0, by omega, rfl⟩
  rw [e, hz]
/-- What PutUp makes of a right store. -/
def putF (st : TStore) (id : ByteArray) (off : Int) (dat : List Int) : TStore × Int :=
  if idB id = true ∧ 1 ≤ dat.length ∧ dat.length ≤ 400 then
    (if upHas st.2.2.2 id = true then
      (if (rd kUp st.2.2.2 (upIns st.2.2.2 id : Int)).2.2.2 = true ∨ off ≠ (List.length (rd kUp st.2.2.2 (upIns st.2.2.2 id : Int)).2.2.1 : Int) ∨ off + (dat.length : Int) > (rd kUp st.2.2.2 (upIns st.2.2.2 id : Int)).2.1 then (st, 4)
       else if (st.1.1.length : Int) - st.2.2.1 < (nPc dat : Int) then (st, 5) else (putAt st id off dat (nPc dat), 0))
     else (st, 2))
  else (st, 1)
theorem tdiv24 (dat : List Int) (h : dat.length ≤ 400) : (IntKind.i64.wrap ((IntKind.i64.wrap ((IntKind.i64.wrap ((dat.length : Int) + 24)) - 1)).tdiv 24)) = (nPc dat : Int) := by
  have htd : ((dat.length : Int) + 24 - 1).tdiv 24 = (nPc dat : Int) := by
    rw [Int.tdiv_eq_ediv_of_nonneg (by omega)]
    unfold nPc
    omega
  rw [w64 (n := (dat.length : Int) + 24) (by omega) (by omega), w64 (n := (dat.length : Int) + 24 - 1) (by omega) (by omega), htd, w64 (by unfold nPc; omega) (by unfold nPc; omega)]
/-- A right store. -/
structure Rt (st : TStore) : Prop where
  g : StoreG st
  up : Ups st.2.2.2
  dk : DiskS st.1
theorem putC_of {st : TStore} {id : ByteArray} {off : Int} {dat : List Int} (h : Rt st) (hb : Byt dat) (h1 : idB id = true) (h2 : 1 ≤ dat.length ∧ dat.length ≤ 400) (h3 : upHas st.2.2.2 id = true)
    (h4 : ¬ ((rd kUp st.2.2.2 (upIns st.2.2.2 id : Int)).2.2.2 = true ∨ off ≠ (List.length (rd kUp st.2.2.2 (upIns st.2.2.2 id : Int)).2.2.1 : Int) ∨ off + (dat.length : Int) > (rd kUp st.2.2.2 (upIns st.2.2.2 id : Int)).2.1))
    (h5 : ¬ (st.1.1.length : Int) - st.2.2.1 < (nPc dat : Int)) : PutC st id off dat := by
  obtain ⟨g1, g2, g3, g4, ⟨g5, g6⟩, _⟩ := h.g
  rw [not_or, not_or] at h4
  refine ⟨h1, ⟨g1, g2⟩, ⟨g5, by omega⟩, g4, h.dk, h.up, h3, by simpa using h4.1, Decidable.not_not.1 h4.2.1, by have h6 := h4.2.2; exact Int.not_lt.1 h6, hb, h2.1⟩
theorem s_putUp_eq (st : TStore) (id : ByteArray) (off : Int) (dat : List Int) (hid : id.size ≤ maxLen) (h : Rt st) (hS : StoreS st) (hok : P_s_StoreOk st = some (true, ())) (hb : Byt dat) (hd : dat.length ≤ 1048576) (ho : -9223372036854775808 ≤ off ∧ off ≤ 9223372036854775807) :
    P_s_PutUp_r99_0 st id off dat = some ((putF st id off dat).1, (putF st id off dat).2, ()) := by
  obtain ⟨g1, g2, g3, g4, ⟨g5, g6⟩, _⟩ := h.g
  have hU := h.up
  have hl : st.1.1.length ≤ 1048576 := by omega
  simp only [P_s_PutUp_r99_0, B_s_PutUp_r99_0, s_copyStore_eq st hS, hok, l11Id_eq id hid, l1In_eq, bO, putF]
  cases hidb : idB id with
  | false => simp [bindS]
  | true =>
    simp only [Bool.not_true, cond_false, true_and]
    by_cases hlen : 1 ≤ (dat.length : Int) ∧ (dat.length : Int) ≤ 400
    · rw [dec_true hlen, if_pos (show 1 ≤ dat.length ∧ dat.length ≤ 400 by omega)]
      simp only [Bool.not_true, cond_false, bindS]
      rw [s_at_eq st.2.2.2 id hU, s_left_eq st g5 g6 hl, tdiv24 dat (by omega)]
      cases hh : upHas st.2.2.2 id with
      | false =>
        simp only [Bool.false_eq_true, if_false, bO]
        rw [dec_true (show (-1 : Int) < 0 by omega)]
        rfl
      | true =>
        obtain ⟨hlt, hid2⟩ := upHas_iff.1 hh
        have hu := hU.2.2 _ (List.getElem_mem hlt)
        rw [← rd_nat (k := kUp) hlt] at hu
        have hu1 := hu.1
        have hu2 := hu.2.1
        simp only [if_true, bO]
        rw [dec_false (show ¬ (upIns st.2.2.2 id : Int) < 0 by omega), dec_true (show (0 : Int) ≤ (upIns st.2.2.2 id : Int) by omega), dec_true (show (upIns st.2.2.2 id : Int) < (st.2.2.2.length : Int) by omega)]
        simp only [cond_true, cond_false]
        cases hdn : (rd kUp st.2.2.2 (upIns st.2.2.2 id : Int)).2.2.2 with
        | true => simp [bO]
        | false =>
          simp only [cond_false]
          cases ho' : decide (off = (List.length (rd kUp st.2.2.2 (upIns st.2.2.2 id : Int)).2.2.1 : Int)) with
          | false =>
            have ho := of_decide_eq_false ho'
            rw [if_pos (.inr (.inl ho))]
            rfl
          | true =>
            have ho := of_decide_eq_true ho'
            simp only [Bool.not_true, cond_false, bO]
            rw [w64 (n := off + (dat.length : Int)) (by omega) (by omega)]
            by_cases hw : off + (dat.length : Int) > (rd kUp st.2.2.2 (upIns st.2.2.2 id : Int)).2.1
            · rw [dec_true hw, if_pos (.inr (.inr hw))]
              rfl
            · have hno : ¬ ((rd kUp st.2.2.2 (upIns st.2.2.2 id : Int)).2.2.2 = true ∨ off ≠ (List.length (rd kUp st.2.2.2 (upIns st.2.2.2 id : Int)).2.2.1 : Int) ∨ off + (dat.length : Int) > (rd kUp st.2.2.2 (upIns st.2.2.2 id : Int)).2.1) := by
                rw [hdn]; rintro (hx | hx | hx)
                · cases hx
                · exact hx ho
                · exact hw hx
              have hno' := hno
              rw [hdn] at hno'
              rw [dec_false hw, if_neg hno']
              simp only [cond_false, bO]
              by_cases hleft : (st.1.1.length : Int) - st.2.2.1 < (nPc dat : Int)
              · rw [dec_true hleft, if_pos hleft]
                rfl
              · rw [dec_false hleft, if_neg hleft]
                simp only [cond_false]
                have hc := putC_of h hb hidb ⟨by omega, by omega⟩ hh hno hleft
                rw [s_put_loop hc (by omega)]
                rfl
    · rw [dec_false hlen, if_neg (show ¬ (1 ≤ dat.length ∧ dat.length ≤ 400) by omega)]
      rfl
theorem ups_storeS {s : TStore} (hd : DiskS s.1) (hu : Ups s.2.2.2) : StoreS s := ⟨hd, by have := hu.2.1; omega, ups_dat hu⟩

def makeF (st : TStore) (id : ByteArray) (want : Int) : TStore × Int :=
  if idB id = true ∧ 0 ≤ want ∧ want ≤ 1000000 then
    (if upHas st.2.2.2 id = true then (st, 3)
     else if (st.1.1.length : Int) - st.2.2.1 < 1 ∨ 10 ≤ st.2.2.2.length then (st, 5)
     else (wrote st (st.2.1, st.2.2.1, 1, id, want, []) (st.2.2.2.take (upIns st.2.2.2 id) ++ (id, want, [], false) :: st.2.2.2.drop (upIns st.2.2.2 id)), 0))
  else (st, 1)
def doneF (st : TStore) (id : ByteArray) (sum : Int) : TStore × Int :=
  if idB id = true then
    (if upHas st.2.2.2 id = true then
      (if (List.length (rd kUp st.2.2.2 (upIns st.2.2.2 id : Int)).2.2.1 : Int) < (rd kUp st.2.2.2 (upIns st.2.2.2 id : Int)).2.1 then (st, 4)
       else if sum ≠ ((crcL (rd kUp st.2.2.2 (upIns st.2.2.2 id : Int)).2.2.1 ^^^ 4294967295 : Nat) : Int) then (st, 6)
       else if (rd kUp st.2.2.2 (upIns st.2.2.2 id : Int)).2.2.2 = true then (st, 0)
       else if (st.1.1.length : Int) - st.2.2.1 < 1 then (st, 5)
       else (wrote st (st.2.1, st.2.2.1, 3, id, 0, []) (st.2.2.2.set (upIns st.2.2.2 id) ((rd kUp st.2.2.2 (upIns st.2.2.2 id : Int)).1, (rd kUp st.2.2.2 (upIns st.2.2.2 id : Int)).2.1, (rd kUp st.2.2.2 (upIns st.2.2.2 id : Int)).2.2.1, true)), 0))
     else (st, 2))
  else (st, 1)
def dropF (st : TStore) (id : ByteArray) : TStore × Int :=
  if idB id = true then
    (if upHas st.2.2.2 id = true then
      (if (st.1.1.length : Int) - st.2.2.1 < 1 then (st, 5)
       else (wrote st (st.2.1, st.2.2.1, 4, id, 0, []) (st.2.2.2.take (upIns st.2.2.2 id) ++ st.2.2.2.drop (upIns st.2.2.2 id + 1)), 0))
     else (st, 2))
  else (st, 1)
theorem rec_ok {st : TStore} (h : StoreG st) (k n : Int) (id : ByteArray) (hid : idB id = true) (hl : ¬ (st.1.1.length : Int) - st.2.2.1 < 1) (hk : k = 1 ∧ 0 ≤ n ∧ n ≤ 1000000000 ∨ (k = 3 ∨ k = 4) ∧ n = 0) : recOkB (st.2.1, st.2.2.1, k, id, n, []) = true := by
  obtain ⟨g1, g2, g3, g4, ⟨g5, g6⟩, _⟩ := h
  simp only [recOkB, hid, List.length_nil]
  rw [dec_true (show 0 ≤ st.2.1 ∧ st.2.1 ≤ 10000 by omega), dec_true (show 0 ≤ st.2.2.1 ∧ st.2.2.1 ≤ 199 by omega)]
  rcases hk with ⟨rfl, h0, h1⟩ | ⟨rfl | rfl, rfl⟩
  · rw [if_pos rfl, dec_true (show 0 ≤ n ∧ n ≤ 1000000000 from ⟨h0, h1⟩)]; rfl
  · rfl
  · rfl
theorem make_fold {st : TStore} {id : ByteArray} {want : Int} (h1 : ¬ upHas st.2.2.2 id = true) (h2 : ¬ 10 ≤ st.2.2.2.length) : foldOne st.2.2.2 (st.2.1, st.2.2.1, 1, id, want, []) = some (st.2.2.2.take (upIns st.2.2.2 id) ++ (id, want, [], false) :: st.2.2.2.drop (upIns st.2.2.2 id)) := by
  simp only [foldOne, if_true]
  rw [if_neg (fun h => h.elim h1 h2)]
theorem done_fold {st : TStore} {id : ByteArray} (hU : Ups st.2.2.2) (h1 : upHas st.2.2.2 id = true) (h2 : ¬ (List.length (rd kUp st.2.2.2 (upIns st.2.2.2 id : Int)).2.2.1 : Int) < (rd kUp st.2.2.2 (upIns st.2.2.2 id : Int)).2.1) (h3 : ¬ (rd kUp st.2.2.2 (upIns st.2.2.2 id : Int)).2.2.2 = true) :
    foldOne st.2.2.2 (st.2.1, st.2.2.1, 3, id, 0, []) = some (st.2.2.2.set (upIns st.2.2.2 id) ((rd kUp st.2.2.2 (upIns st.2.2.2 id : Int)).1, (rd kUp st.2.2.2 (upIns st.2.2.2 id : Int)).2.1, (rd kUp st.2.2.2 (upIns st.2.2.2 id : Int)).2.2.1, true)) := by
  obtain ⟨hlt, hid2⟩ := upHas_iff.1 h1
  have hu := hU.2.2 _ (List.getElem_mem hlt)
  rw [← rd_nat (k := kUp) hlt] at hu
  have hu1 := hu.1
  simp only [foldOne, h1]
  rw [if_neg (by omega), if_neg (by simp), if_neg (by omega), if_pos trivial, if_neg (fun h => h.elim h3 (fun h => h (Int.le_antisymm hu1 (Int.not_lt.1 h2))))]
theorem drop_fold {st : TStore} {id : ByteArray} (h1 : upHas st.2.2.2 id = true) : foldOne st.2.2.2 (st.2.1, st.2.2.1, 4, id, 0, []) = some (st.2.2.2.take (upIns st.2.2.2 id) ++ st.2.2.2.drop (upIns st.2.2.2 id + 1)) := by
  simp only [foldOne, h1]
  rw [if_neg (by omega), if_neg (by simp), if_neg (by omega), if_neg (by omega), if_pos trivial]
theorem s_makeUp_eq (st : TStore) (id : ByteArray) (want : Int) (hid : id.size ≤ maxLen) (h : Rt st) (hS : StoreS st) (hok : P_s_StoreOk st = some (true, ())) : P_s_MakeUp_r99_0 st id want = some ((makeF st id want).1, (makeF st id want).2, ()) := by
  obtain ⟨g1, g2, g3, g4, ⟨g5, g6⟩, _⟩ := h.g
  have hU := h.up
  have hl : st.1.1.length ≤ 1048576 := by omega
  have hul := hU.2.1
  simp only [P_s_MakeUp_r99_0, B_s_MakeUp_r99_0, s_copyStore_eq st hS, hok, l11Id_eq id hid, l1In_eq, bO, makeF]
  cases hidb : idB id with
  | false => simp [bindS, bO]
  | true =>
    simp only [Bool.not_true, cond_false, true_and]
    by_cases hw : 0 ≤ want ∧ want ≤ 1000000
    · rw [dec_true hw, if_pos hw]
      simp only [Bool.not_true, cond_false, bindS]
      rw [s_at_eq st.2.2.2 id hU, s_left_eq st g5 g6 hl]
      cases hh : upHas st.2.2.2 id with
      | true =>
        simp only [if_true, bO]
        rw [dec_true (show (upIns st.2.2.2 id : Int) ≥ 0 by omega)]
        rfl
      | false =>
        simp only [Bool.false_eq_true, if_false, bO]
        rw [dec_false (show ¬ (-1 : Int) ≥ 0 by omega)]
        simp only [cond_false]
        by_cases hleft : (st.1.1.length : Int) - st.2.2.1 < 1
        · rw [dec_true hleft, if_pos (.inl hleft)]
          rfl
        · rw [dec_false hleft]
          simp only [cond_false]
          by_cases h10 : 10 ≤ st.2.2.2.length
          · rw [dec_true (show (st.2.2.2.length : Int) = 10 by omega), if_pos (.inr h10)]
            rfl
          · rw [dec_false (show ¬ (st.2.2.2.length : Int) = 10 by omega), if_neg (fun hx => hx.elim hleft h10)]
            simp only [cond_false]
            have hr := rec_ok h.g 1 want id hidb hleft (.inl ⟨rfl, hw.1, by omega⟩)
            have hf := make_fold (st := st) (id := id) (want := want) (by rw [hh]; simp) h10
            rw [s_write_eq st 0 0 1 id want [] hU hr byt_nil g5 (by omega) hl _ hf]
            rfl
    · rw [dec_false hw, if_neg hw]
      rfl
theorem s_doneUp_eq (st : TStore) (id : ByteArray) (sum : Int) (hid : id.size ≤ maxLen) (h : Rt st) (hS : StoreS st) (hok : P_s_StoreOk st = some (true, ())) : P_s_DoneUp_r99_0 st id sum = some ((doneF st id sum).1, (doneF st id sum).2, ()) := by
  obtain ⟨g1, g2, g3, g4, ⟨g5, g6⟩, _⟩ := h.g
  have hU := h.up
  have hl : st.1.1.length ≤ 1048576 := by omega
  have hul := hU.2.1
  simp only [P_s_DoneUp_r99_0, B_s_DoneUp_r99_0, s_copyStore_eq st hS, hok, l11Id_eq id hid, bO, doneF]
  cases hidb : idB id with
  | false => rfl
  | true =>
    simp only [Bool.not_true, cond_false, bindS, if_true]
    rw [s_at_eq st.2.2.2 id hU, s_left_eq st g5 g6 hl]
    cases hh : upHas st.2.2.2 id with
    | false =>
      simp only [Bool.false_eq_true, if_false, bO]
      rw [dec_true (show (-1 : Int) < 0 by omega)]
      rfl
    | true =>
      obtain ⟨hlt, hid2⟩ := upHas_iff.1 hh
      have hu := hU.2.2 _ (List.getElem_mem hlt)
      have hdl := ups_dat hU _ (List.getElem_mem hlt)
      rw [← rd_nat (k := kUp) hlt] at hu hdl
      simp only [if_true, bO]
      rw [dec_false (show ¬ (upIns st.2.2.2 id : Int) < 0 by omega), dec_true (show (0 : Int) ≤ (upIns st.2.2.2 id : Int) by omega), dec_true (show (upIns st.2.2.2 id : Int) < (st.2.2.2.length : Int) by omega)]
      simp only [cond_true, cond_false]
      rw [s_Crc_eq _ hu.2.2.2 (by simp only [maxLen]; omega)]
      simp only [bO]
      by_cases hd1 : (List.length (rd kUp st.2.2.2 (upIns st.2.2.2 id : Int)).2.2.1 : Int) < (rd kUp st.2.2.2 (upIns st.2.2.2 id : Int)).2.1
      · rw [dec_true hd1, if_pos hd1]
        rfl
      rw [dec_false hd1, if_neg hd1]
      simp only [cond_false]
      by_cases hc : sum = ((crcL (rd kUp st.2.2.2 (upIns st.2.2.2 id : Int)).2.2.1 ^^^ 4294967295 : Nat) : Int)
      · rw [dec_true hc, if_neg (fun hx => hx hc)]
        simp only [Bool.not_true, cond_false]
        cases hdn : (rd kUp st.2.2.2 (upIns st.2.2.2 id : Int)).2.2.2 with
        | true => rfl
        | false =>
          simp only [Bool.not_false, cond_true, cond_false, Bool.false_eq_true, if_false, bO]
          by_cases hleft : (st.1.1.length : Int) - st.2.2.1 < 1
          · rw [dec_true hleft, if_pos hleft]
            rfl
          · rw [dec_false hleft, if_neg hleft]
            simp only [cond_false]
            have hr := rec_ok h.g 3 0 id hidb hleft (.inr ⟨.inl rfl, rfl⟩)
            have hf := done_fold hU hh hd1 (by rw [hdn]; simp)
            rw [s_write_eq st 0 0 3 id 0 [] hU hr byt_nil g5 (by omega) hl _ hf]
            rfl
      · rw [dec_false hc, if_pos hc]
        rfl
theorem s_dropUp_eq (st : TStore) (id : ByteArray) (hid : id.size ≤ maxLen) (h : Rt st) (hS : StoreS st) (hok : P_s_StoreOk st = some (true, ())) : P_s_DropUp_r99_0 st id = some ((dropF st id).1, (dropF st id).2, ()) := by
  obtain ⟨g1, g2, g3, g4, ⟨g5, g6⟩, _⟩ := h.g
  have hU := h.up
  have hl : st.1.1.length ≤ 1048576 := by omega
  have hul := hU.2.1
  simp only [P_s_DropUp_r99_0, B_s_DropUp_r99_0, s_copyStore_eq st hS, hok, l11Id_eq id hid, bO, dropF]
  cases hidb : idB id with
  | false => rfl
  | true =>
    simp only [Bool.not_true, cond_false, bindS, if_true]
    rw [s_at_eq st.2.2.2 id hU, s_left_eq st g5 g6 hl]
    cases hh : upHas st.2.2.2 id with
    | false =>
      simp only [Bool.false_eq_true, if_false, bO]
      rw [dec_true (show (-1 : Int) < 0 by omega)]
      rfl
    | true =>
      simp only [if_true, bO]
      rw [dec_false (show ¬ (upIns st.2.2.2 id : Int) < 0 by omega)]
      simp only [cond_false]
      by_cases hleft : (st.1.1.length : Int) - st.2.2.1 < 1
      · rw [dec_true hleft, if_pos hleft]
        rfl
      · rw [dec_false hleft, if_neg hleft]
        simp only [cond_false]
        have hr := rec_ok h.g 4 0 id hidb hleft (.inr ⟨.inr rfl, rfl⟩)
        have hf := drop_fold (st := st) hh
        rw [s_write_eq st 0 0 4 id 0 [] hU hr byt_nil g5 (by omega) hl _ hf]
        rfl

theorem bytesOf_strOf {xs : List Int} (h : Byt xs) : bytesOf (strOf xs) = xs := by
  show ((strOfNums xs).data.toList.map fun b => (b.toNat : Int)) = xs
  rw [strOfNums_data, List.map_map]
  refine (List.map_congr_left fun x hx => ?_).trans (List.map_id _)
  have := h x hx
  simp only [Function.comp, id]
  have e : (UInt8.ofNat x.toNat).toNat = x.toNat % 256 := UInt8.toNat_ofNat
  rw [e]
  omega
theorem strOf_bytesOf (s : ByteArray) : strOf (bytesOf s) = s := by
  refine str_inj ?_
  rw [ByteArray.toList_eq, ByteArray.toList_eq]
  show ((bytesOf s).map fun n => UInt8.ofNat n.toNat) = s.data.toList
  rw [bytesOf, List.map_map]
  refine (List.map_congr_left fun x hx => ?_).trans (List.map_id _)
  simp
theorem wrap_u8_mod (n : Nat) : IntKind.u8.wrap (n : Int) = ((n % 256 : Nat) : Int) := by
  simp only [IntKind.wrap, IntKind.bits, IntKind.signed]
  simp
theorem mul_or_byte (x y : Nat) (h : y < 256) : (x * 256) ||| y = x * 256 + y := by
  have := Nat.two_pow_add_eq_or_of_lt (i := 8) (b := y) (by simpa using h) x
  rw [Nat.mul_comm x 256]
  exact this.symm
theorem bigN_big (p q : List Int) (n k : Nat) : ∀ j, j ≤ k → bigN (p ++ (big (n : Int) k ++ q)) p.length j = n / 2 ^ (8 * (k - j)) % 2 ^ (8 * j)
  | 0, _ => by simp [bigN, Nat.mod_one]
  | j + 1, hj => by
    have ih := bigN_big p q n k j (by omega)
    have hget : (p ++ (big (n : Int) k ++ q)).getD (p.length + j) 0 = bigAt (n : Int) k j := by
      simp only [List.getD]
      rw [List.getElem?_append_right (by omega), Nat.add_sub_cancel_left, List.getElem?_append_left (by rw [big_len]; omega)]
      simp only [big, List.getElem?_map, List.getElem?_range (show j < k by omega), Option.map_some, Option.getD_some]
    have hat : bigAt (n : Int) k j = ((n / 2 ^ (8 * (k - 1 - j)) % 256 : Nat) : Int) := by
      unfold bigAt
      rw [← wrap_u8_mod]
      congr 1
      rw [show (2 : Int) ^ (8 * (k - 1 - j)) = ((2 ^ (8 * (k - 1 - j)) : Nat) : Int) by rw [Int.natCast_pow]; rfl, Int.fdiv_eq_ediv_of_nonneg _ (Int.natCast_nonneg _), ← Int.natCast_ediv]
    simp only [bigN]
    rw [ih, hget, hat, Int.toNat_natCast, mul_or_byte _ _ (Nat.mod_lt _ (by omega))]
    rw [show k - 1 - j = k - (j + 1) by omega]
    have e1 : 2 ^ (8 * (k - j)) = 2 ^ (8 * (k - (j + 1))) * 256 := by rw [show 8 * (k - j) = 8 * (k - (j + 1)) + 8 by omega, Nat.pow_add]
    have e2 : 2 ^ (8 * (j + 1)) = 256 * 2 ^ (8 * j) := by rw [show 8 * (j + 1) = 8 + 8 * j by omega, Nat.pow_add]
    rw [e1, ← Nat.div_div_eq_div_mul, e2, Nat.mod_mul]
    omega
theorem bigN_big' {b : List Int} (p q : List Int) (n : Int) (k a : Nat) (h : b = p ++ (big n k ++ q)) (ha : a = p.length) (h0 : 0 ≤ n) (h1 : n < 2 ^ (8 * k)) : (bigN b a k : Int) = n := by
  subst h; subst ha
  obtain ⟨m, rfl⟩ : ∃ m : Nat, n = (m : Int) := ⟨n.toNat, by omega⟩
  rw [bigN_big p q m k k (Nat.le_refl _), Nat.sub_self, Nat.mul_zero, Nat.pow_zero, Nat.div_one]
  rw [show (2 : Int) ^ (8 * k) = ((2 ^ (8 * k) : Nat) : Int) by rw [Int.natCast_pow]; rfl] at h1
  rw [Nat.mod_eq_of_lt (by omega)]
theorem putRec_bytes {r : TRec} (h : RecG r) : bytesOf (putRec r) = recB r ++ big (clamp (crcI (recB r))) 4 := by
  unfold putRec
  exact bytesOf_strOf (byt_app (recB_byt r h.2) (byt_big _ _))
theorem recB_eq {r : TRec} (h : recOkB r = true) (c : List Int) : recB r ++ c = big r.1 3 ++ (big r.2.1 2 ++ (big r.2.2.1 1 ++ (big (r.2.2.2.1.size : Int) 1 ++ (bytesOf r.2.2.2.1 ++ (big r.2.2.2.2.1 4 ++ (big (List.length r.2.2.2.2.2 : Int) 1 ++ (r.2.2.2.2.2 ++ c))))))) := by
  have hb := recOk_bnd h
  have hq : 0 ≤ r.2.1 := by
    simp only [recOkB, Bool.and_eq_true] at h
    exact (of_decide_eq_true h.1.1.2).1
  unfold recB
  rw [clamp_nn (n := r.1) (by omega), clamp_nn (n := r.2.1) hq, clamp_nn (n := r.2.2.1) (by omega), clamp_nn (n := (r.2.2.2.1.size : Int)) (by omega), clamp_nn (n := r.2.2.2.2.1) (by omega), clamp_nn (n := (List.length r.2.2.2.2.2 : Int)) (by omega)]
  simp only [List.append_assoc]
theorem recOk_seq {r : TRec} (h : recOkB r = true) : 0 ≤ r.2.1 ∧ r.2.1 ≤ 199 := by
  simp only [recOkB, Bool.and_eq_true] at h
  exact of_decide_eq_true h.1.1.2
theorem recAt_put {r : TRec} (h : recOkB r = true) (c : List Int) : idLen (recB r ++ c) = r.2.2.2.1.size ∧ datLen (recB r ++ c) = List.length r.2.2.2.2.2 ∧ recAt (recB r ++ c) = r := by
  have hb := recOk_bnd h
  have hq := recOk_seq h
  have e := recB_eq h c
  generalize recB r ++ c = b at e
  have b6 : (bigN b 6 1 : Int) = (r.2.2.2.1.size : Int) := bigN_big' (big r.1 3 ++ (big r.2.1 2 ++ big r.2.2.1 1)) _ _ 1 6 (by rw [e]; simp only [List.append_assoc]; rfl) (by simp [big_len]) (by omega) (by omega)
  have hid : idLen b = r.2.2.2.1.size := by unfold idLen; omega
  have b11 : (bigN b (11 + idLen b) 1 : Int) = (List.length r.2.2.2.2.2 : Int) :=
    bigN_big' (big r.1 3 ++ (big r.2.1 2 ++ (big r.2.2.1 1 ++ (big (r.2.2.2.1.size : Int) 1 ++ (bytesOf r.2.2.2.1 ++ big r.2.2.2.2.1 4))))) _ _ 1 _ (by rw [e]; simp only [List.append_assoc]; rfl) (by simp [big_len, bytesOf_length, hid]; omega) (by omega) (by omega)
  have hdl : datLen b = List.length r.2.2.2.2.2 := by unfold datLen; omega
  refine ⟨hid, hdl, ?_⟩
  have b0 : (bigN b 0 3 : Int) = r.1 := bigN_big' [] _ _ 3 0 (by rw [e]; rfl) rfl (by omega) (by omega)
  have b3 : (bigN b 3 2 : Int) = r.2.1 := bigN_big' (big r.1 3) _ _ 2 3 (by rw [e]) (by simp [big_len]) (by omega) (by omega)
  have b5 : (bigN b 5 1 : Int) = r.2.2.1 := bigN_big' (big r.1 3 ++ big r.2.1 2) _ _ 1 5 (by rw [e]; simp only [List.append_assoc]; rfl) (by simp [big_len]) (by omega) (by omega)
  have b7 : (bigN b (7 + idLen b) 4 : Int) = r.2.2.2.2.1 := bigN_big' (big r.1 3 ++ (big r.2.1 2 ++ (big r.2.2.1 1 ++ (big (r.2.2.2.1.size : Int) 1 ++ bytesOf r.2.2.2.1)))) _ _ 4 _ (by rw [e]; simp only [List.append_assoc]; rfl) (by simp [big_len, bytesOf_length, hid]; omega) (by omega) (by omega)
  have t1 : (b.take (7 + idLen b)).drop 7 = bytesOf r.2.2.2.1 := by
    have e7 : b = (big r.1 3 ++ (big r.2.1 2 ++ (big r.2.2.1 1 ++ big (r.2.2.2.1.size : Int) 1))) ++ (bytesOf r.2.2.2.1 ++ (big r.2.2.2.2.1 4 ++ (big (List.length r.2.2.2.2.2 : Int) 1 ++ (r.2.2.2.2.2 ++ c)))) := by rw [e]; simp only [List.append_assoc]
    have hl7 : (big r.1 3 ++ (big r.2.1 2 ++ (big r.2.2.1 1 ++ big (r.2.2.2.1.size : Int) 1))).length = 7 := by simp [big_len]
    rw [hid, List.drop_take, Nat.add_sub_cancel_left, e7, ← hl7, List.drop_left, ← bytesOf_length, List.take_left]
  have t2 : (b.take (12 + idLen b + datLen b)).drop (12 + idLen b) = r.2.2.2.2.2 := by
    have e12 : b = (big r.1 3 ++ (big r.2.1 2 ++ (big r.2.2.1 1 ++ (big (r.2.2.2.1.size : Int) 1 ++ (bytesOf r.2.2.2.1 ++ (big r.2.2.2.2.1 4 ++ big (List.length r.2.2.2.2.2 : Int) 1)))))) ++ (r.2.2.2.2.2 ++ c) := by rw [e]; simp only [List.append_assoc]
    have hl12 : (big r.1 3 ++ (big r.2.1 2 ++ (big r.2.2.1 1 ++ (big (r.2.2.2.1.size : Int) 1 ++ (bytesOf r.2.2.2.1 ++ (big r.2.2.2.2.1 4 ++ big (List.length r.2.2.2.2.2 : Int) 1)))))).length = 12 + r.2.2.2.1.size := by simp [big_len, bytesOf_length]; omega
    rw [hid, hdl, List.drop_take, Nat.add_sub_cancel_left, e12, ← hl12, List.drop_left, List.take_left]
  unfold recAt
  rw [b0, b3, b5, b7, t1, t2, strOf_bytesOf]
theorem getRec_put {r : TRec} (h : RecG r) : getRec (putRec r) = (r, true, ()) := by
  have hpb := putRec_bytes h
  obtain ⟨h1, h2, h3⟩ := recAt_put h.1 (big (clamp (crcI (recB r))) 4)
  have hsz : (putRec r).size = 12 + r.2.2.2.1.size + List.length r.2.2.2.2.2 + 4 := by
    unfold putRec
    rw [strOf_size, List.length_append, recB_len, big_len]
  have hg : recGood (putRec r) = true := by
    unfold recGood
    rw [hpb, h1, h2, h3, hsz, dec_true (by omega), h.1]
    simp
  unfold getRec
  rw [if_pos hg, hpb, h3]
theorem putRec_64 {r : TRec} (h : recOkB r = true) : (putRec r).size ≤ 64 := by
  have hb := recOk_bnd h
  unfold putRec
  rw [strOf_size, List.length_append, recB_len, big_len]
  omega

/-- A sector goes on with the records: its record. -/
def goesOn (last : Int) (i : Nat) (s : ByteArray) : Bool := (getRec s).2.1 && decide ((getRec s).1.2.1 = (i : Int)) && !decide ((getRec s).1.1 < last)
/-- The records at the beginning of sectors. -/
def scanF (last : Int) (i : Nat) : List ByteArray → List TRec
  | [] => []
  | s :: l => if goesOn last i s = true then (getRec s).1 :: scanF (getRec s).1.1 (i + 1) l else []
def scanL (now : List ByteArray) : List TRec := scanF 0 0 now
def lastE : Int → List TRec → Int
  | e, [] => e
  | _, r :: l => lastE r.1 l
theorem scanF_len (last : Int) (i : Nat) (l : List ByteArray) : (scanF last i l).length ≤ l.length := by
  induction l generalizing last i with
  | nil => exact Nat.le_refl _
  | cons s l ih =>
    simp only [scanF]
    split
    · have := ih (getRec s).1.1 (i + 1); simp only [List.length_cons]; omega
    · simp
theorem scanF_good (last : Int) (i : Nat) (l : List ByteArray) : ∀ r ∈ scanF last i l, RecG r := by
  induction l generalizing last i with
  | nil => intro r hr; cases hr
  | cons s l ih =>
    intro r hr
    simp only [scanF] at hr
    split at hr
    · rename_i hg
      simp only [goesOn, Bool.and_eq_true] at hg
      rcases List.mem_cons.1 hr with rfl | hr
      · exact getRec_good hg.1.1
      · exact ih _ _ r hr
    · cases hr
theorem lastE_ge (last : Int) (i : Nat) (l : List ByteArray) : last ≤ lastE last (scanF last i l) ∧ ∀ r ∈ scanF last i l, r.1 ≤ lastE last (scanF last i l) := by
  induction l generalizing last i with
  | nil => exact ⟨Int.le_refl _, fun r hr => by cases hr⟩
  | cons s l ih =>
    simp only [scanF]
    split
    · rename_i hg
      obtain ⟨h1, h2⟩ := ih (getRec s).1.1 (i + 1)
      simp only [goesOn, Bool.and_eq_true, Bool.not_eq_true', decide_eq_false_iff_not] at hg
      have h3 := hg.2
      simp only [lastE]
      refine ⟨by omega, fun r hr => ?_⟩
      rcases List.mem_cons.1 hr with rfl | hr
      · exact h1
      · exact h2 r hr
    · exact ⟨Int.le_refl _, fun r hr => by cases hr⟩
theorem scanF_app (last : Int) (i : Nat) (a b : List ByteArray) (h : (scanF last i a).length = a.length) : scanF last i (a ++ b) = scanF last i a ++ scanF (lastE last (scanF last i a)) (i + a.length) b := by
  induction a generalizing last i with
  | nil => simp [scanF, lastE]
  | cons s a ih =>
    simp only [scanF, List.cons_append] at h ⊢
    split
    · rename_i hg
      rw [if_pos hg] at h
      simp only [List.length_cons, Nat.add_right_cancel_iff] at h
      rw [ih _ _ h, List.cons_append, lastE, List.length_cons]
      congr 3
      omega
    · rename_i hg
      rw [if_neg hg] at h
      simp at h
theorem scanF_take (last : Int) (i : Nat) (l : List ByteArray) : scanF last i (l.take (scanF last i l).length) = scanF last i l := by
  induction l generalizing last i with
  | nil => rfl
  | cons s l ih =>
    simp only [scanF]
    split
    · rename_i hg
      simp only [List.length_cons, List.take_succ_cons, scanF, if_pos hg, ih]
    · rfl
theorem scanF_stop (last : Int) (i : Nat) (l : List ByteArray) (h : ∀ s, l.head? = some s → goesOn last i s = false) : scanF last i l = [] := by
  cases l with
  | nil => rfl
  | cons s l => simp only [scanF, h s rfl, Bool.false_eq_true, if_false]
theorem scanF_cons (last : Int) (i : Nat) (s : ByteArray) (l : List ByteArray) : scanF last i (s :: l) = bif goesOn last i s then (getRec s).1 :: scanF (getRec s).1.1 (i + 1) l else [] := by
  simp only [scanF]
  cases goesOn last i s <;> rfl
set_option maxRecDepth 100000 in
theorem s_scan_eq (d : TDisk) (h : Secs d.1) : P_s_ScanRecs d = some (scanL d.1, ()) := by
  have hl := h.1
  obtain ⟨z, e, hz⟩ := loopO_ind (L_s_ScanRecs_0 P_s_GetRec d) (fun l => ((d.1.length : Int) - l.2.1).toNat) (fun l => ∃ i : Nat, l.2.1 = (i : Int) ∧ i ≤ d.1.length ∧ List.length l.2.2.1 = i ∧ scanL d.1 = l.2.2.1 ++ scanF l.1 i (d.1.drop i))
    (fun z => z = (scanL d.1, ())) (fun l hl => by
      obtain ⟨i, h0, h1, h2, h3⟩ := hl
      simp only [L_s_ScanRecs_0]
      by_cases hi : i < d.1.length
      · rw [h0, dec_true (show (i : Int) < (d.1.length : Int) by omega), dec_true (show (0 : Int) ≤ (i : Int) by omega)]
        simp only [cond_true]
        rw [s_GetRec_eq _ (secs_at h hi)]
        simp only [bindO]
        rw [rd_str hi]
        have hdrop : d.1.drop i = d.1[i] :: d.1.drop (i + 1) := List.drop_eq_getElem_cons hi
        rw [hdrop] at h3
        rw [scanF_cons] at h3
        simp only [goesOn] at h3
        obtain ⟨g, hg⟩ : ∃ g, getRec d.1[i] = g := ⟨_, rfl⟩
        rw [hg] at h3 ⊢
        cases hk : g.2.1 with
        | false =>
          rw [hk] at h3
          simp only [Bool.false_and, cond_false, List.append_nil] at h3
          exact .inr ⟨_, rfl, by rw [h3]⟩
        | true =>
          rw [hk] at h3
          simp only [Bool.true_and] at h3
          simp only [Bool.not_true, cond_false]
          by_cases e1 : g.1.2.1 = (i : Int)
          · rw [dec_true e1] at h3 ⊢
            by_cases e2 : g.1.1 < l.1
            · rw [dec_true e2] at h3 ⊢
              simp only [Bool.not_true, Bool.and_false, cond_false, List.append_nil] at h3
              exact .inr ⟨_, rfl, by rw [h3]⟩
            · rw [dec_false e2] at h3 ⊢
              simp only [Bool.not_false, Bool.and_true, cond_true, Bool.true_and] at h3
              simp only [Bool.not_true, cond_false]
              rw [dec_true (by simp; omega), dec_true (by simp; omega), w64 (by omega) (by omega)]
              refine .inl ⟨_, rfl, ⟨i + 1, by simp only; omega, by omega, by simp; omega, ?_⟩, by simp only; omega⟩
              simp only
              rw [h3, List.append_assoc]
              rfl
          · rw [dec_false e1] at h3 ⊢
            simp only [Bool.false_and, cond_false, List.append_nil] at h3
            exact .inr ⟨_, rfl, by rw [h3]⟩
      · rw [h0, dec_false (show ¬ (i : Int) < (d.1.length : Int) by omega)]
        rw [List.drop_eq_nil_of_le (by omega)] at h3
        simp only [scanF, List.append_nil] at h3
        exact .inr ⟨_, rfl, by rw [h3]⟩) (0, 0, [], ()) ⟨0, rfl, by omega, rfl, by simp [scanL]⟩
  have e' : P_s_ScanRecs d = some z := e
  rw [e', hz]
theorem i_scan_eq (d : TDisk) (h : Secs d.1) : P_i_ScanRecs d = some (scanL d.1, ()) := by
  obtain ⟨l, h1, h2, _⟩ := scan_ok d h
  rw [s_scan_eq d h] at h1
  rw [h2, ← h1]
/-- A right store. -/
structure GoodS (st : TStore) : Prop where
  dk : diskB st.1 = true
  ep : 0 ≤ st.2.1 ∧ st.2.1 ≤ 10000
  up : foldAll [] (scanL st.1.1) = some st.2.2.2
  nx : st.2.2.1 = (List.length (scanL st.1.1) : Int)
  le : lastE 0 (scanL st.1.1) ≤ st.2.1
  tl : ((st.1.1.drop (scanL st.1.1).length).all fun s => !newer st.2.1 s) = true
theorem diskB_S {d : TDisk} (h : diskB d = true) : DiskS d ∧ d.1.length = d.2.length ∧ d.1.length ≤ 200 ∧ (∀ s ∈ d.1, s.size ≤ 64) ∧ ∀ s ∈ d.2, s.size ≤ 64 := by
  simp only [diskB, Bool.and_eq_true] at h
  obtain ⟨h1, h2⟩ := h
  have h1 := of_decide_eq_true h1
  have k1 : ∀ s ∈ d.1, s.size ≤ 64 := fun s hs => by
    obtain ⟨i, hi, rfl⟩ := List.getElem_of_mem hs
    have := List.all_eq_true.1 h2 i (List.mem_range.2 hi)
    simp only [Bool.and_eq_true, Bool.not_eq_true', decide_eq_false_iff_not] at this
    have h3 := this.1
    rw [rd_str hi] at h3
    omega
  have k2 : ∀ s ∈ d.2, s.size ≤ 64 := fun s hs => by
    obtain ⟨i, hi, rfl⟩ := List.getElem_of_mem hs
    have := List.all_eq_true.1 h2 i (List.mem_range.2 (by omega))
    simp only [Bool.and_eq_true, Bool.not_eq_true', decide_eq_false_iff_not] at this
    have h3 := this.2
    rw [rd_str hi] at h3
    omega
  exact ⟨⟨⟨by omega, fun s hs => by have := k1 s hs; omega⟩, by omega, fun s hs => by have := k2 s hs; omega⟩, h1.1, h1.2, k1, k2⟩
theorem diskB_of {d : TDisk} (h1 : d.1.length = d.2.length) (h2 : d.1.length ≤ 200) (h3 : ∀ s ∈ d.1, s.size ≤ 64) (h4 : ∀ s ∈ d.2, s.size ≤ 64) : diskB d = true := by
  simp only [diskB, Bool.and_eq_true]
  refine ⟨decide_eq_true ⟨h1, h2⟩, List.all_eq_true.2 fun i hi => ?_⟩
  have hi := List.mem_range.1 hi
  rw [rd_str hi, rd_str (show i < d.2.length by omega)]
  have k1 := h3 _ (List.getElem_mem hi)
  have k2 := h4 _ (List.getElem_mem (show i < d.2.length by omega))
  rw [dec_false (by omega), dec_false (by omega)]
  rfl
theorem lastE_last (l : List TRec) (h : 0 < l.length) (e : Int) : (rd kRec l ((l.length : Int) - 1)).1 = lastE e l := by
  induction l generalizing e with
  | nil => simp at h
  | cons r l ih =>
    cases l with
    | nil => rfl
    | cons r' l =>
      have h2 := ih (by simp) r.1
      simp only [lastE] at h2 ⊢
      rw [← h2]
      have e1 : ((r :: r' :: l).length : Int) - 1 = (((l.length + 1) : Nat) : Int) := by simp only [List.length_cons]; omega
      have e2 : ((r' :: l).length : Int) - 1 = ((l.length : Nat) : Int) := by simp only [List.length_cons]; omega
      rw [e1, e2, rd_nat (k := kRec) (xs := r :: r' :: l) (by simp), rd_nat (k := kRec) (xs := r' :: l) (by simp)]
      rfl
/-- A store is right just if it is GoodS (its bytes being bytes). -/
theorem storeOk_iff (st : TStore) (h : Secs st.1.1) (hb : ∀ u ∈ st.2.2.2, Byt u.2.2.1) : ∃ b, P_s_StoreOk st = some (b, ()) ∧ P_i_StoreOk st = some (b, ()) ∧ (b = true ↔ GoodS st) := by
  obtain ⟨b, hs, hi, _⟩ := storeOk_eq st h
  refine ⟨b, hs, hi, ?_⟩
  have hl := h.1
  have hrg := scanF_good 0 0 st.1.1
  have hll := scanF_len 0 0 st.1.1
  have hfs := s_FoldRecs_eq (scanL st.1.1) (by simp only [maxLen, scanL]; omega) hrg
  simp only [P_s_StoreOk, B_s_StoreOk, s_DiskOk_eq, s_scan_eq st.1 h, hfs, l1In_eq, bindO] at hs
  have hsc : scanF 0 0 st.1.1 = scanL st.1.1 := rfl
  rw [hsc] at hrg hll
  cases hbd : diskB st.1 with
  | false =>
    rw [hbd] at hs
    have : b = false := by
      simp only [Bool.not_false, cond_true] at hs
      first | (injection hs with hs; injection hs with hs; exact hs.symm) | (simp [bindS] at hs; exact hs.symm)
    rw [this]
    exact ⟨fun e => by (cases e), fun g => by rw [g.dk] at hbd; cases hbd⟩
  | true =>
    rw [hbd] at hs
    simp only [Bool.not_true, cond_false] at hs
    by_cases he : 0 ≤ st.2.1 ∧ st.2.1 ≤ 10000
    · rw [dec_true he] at hs
      simp only [Bool.not_true, cond_false, bindS] at hs
      unfold foldRecs at hs
      cases hf : foldAll [] (scanL st.1.1) with
      | none =>
        rw [hf] at hs
        have : b = false := by
          first | (injection hs with hs; injection hs with hs; exact hs.symm) | (simp at hs; exact hs.symm)
        rw [this]
        exact ⟨fun e => by (cases e), fun g => by rw [g.up] at hf; cases hf⟩
      | some us =>
        have hu := foldAll_ups ups_nil hrg hf
        have hul := hu.2.1
        rw [hf] at hs
        simp only at hs
        rw [s_same_eq _ _ (show us.length ≤ maxLen by simp only [maxLen]; omega)] at hs
        simp only [Bool.not_true, cond_false] at hs
        cases hsm : sameUpsB us st.2.2.2 with
        | false =>
          rw [hsm] at hs
          have : b = false := by
            first | (injection hs with hs; injection hs with hs; exact hs.symm) | (simp at hs; exact hs.symm)
          rw [this]
          refine ⟨fun e => by (cases e), fun g => ?_⟩
          have := g.up
          rw [hf] at this
          injection this with this
          rw [this, sameUpsB_refl] at hsm
          cases hsm
        | true =>
          have heq := sameUps_eq (fun u hu' => (hu.2.2 u hu').2.2.2) hb hsm
          rw [hsm] at hs
          simp only [Bool.not_true, cond_false] at hs
          by_cases hn : st.2.2.1 = (List.length (scanL st.1.1) : Int)
          · rw [dec_true hn] at hs
            simp only [Bool.not_true, cond_false] at hs
            have htail := s_tail_eq st h (scanL st.1.1).length hll
            rw [hn] at hs
            rw [htail] at hs
            by_cases hl0 : (List.length (scanL st.1.1) : Int) > 0
            · rw [dec_true hl0, w64 (n := (List.length (scanL st.1.1) : Int) - 1) (by omega) (by omega), dec_true (show (0 : Int) ≤ (List.length (scanL st.1.1) : Int) - 1 by omega), dec_true (show (List.length (scanL st.1.1) : Int) - 1 < (List.length (scanL st.1.1) : Int) by omega), lastE_last (scanL st.1.1) (by omega) 0] at hs
              simp only [cond_true] at hs
              by_cases hle : lastE 0 (scanL st.1.1) > st.2.1
              · rw [dec_true hle] at hs
                have : b = false := by
                  first | (injection hs with hs; injection hs with hs; exact hs.symm) | (simp at hs; exact hs.symm)
                rw [this]
                exact ⟨fun e => by (cases e), fun g => by have := g.le; omega⟩
              · rw [dec_false hle] at hs
                simp only [cond_false] at hs
                have : b = ((st.1.1.drop (scanL st.1.1).length).all fun s => !newer st.2.1 s) := by
                  first | (injection hs with hs; injection hs with hs; exact hs.symm) | (simp at hs; exact hs.symm)
                rw [this]
                exact ⟨fun e => ⟨hbd, he, by rw [hf, heq], hn, by omega, e⟩, fun g => g.tl⟩
            · rw [dec_false hl0] at hs
              simp only [cond_false] at hs
              have : b = ((st.1.1.drop (scanL st.1.1).length).all fun s => !newer st.2.1 s) := by
                first | (injection hs with hs; injection hs with hs; exact hs.symm) | (simp at hs; exact hs.symm)
              rw [this]
              have hnil : scanL st.1.1 = [] := List.length_eq_zero_iff.1 (by omega)
              exact ⟨fun e => ⟨hbd, he, by rw [hf, heq], hn, by rw [hnil]; exact he.1, e⟩, fun g => g.tl⟩
          · rw [dec_false hn] at hs
            have : b = false := by
              first | (injection hs with hs; injection hs with hs; exact hs.symm) | (simp at hs; exact hs.symm)
            rw [this]
            exact ⟨fun e => by (cases e), fun g => absurd g.nx hn⟩
    · rw [dec_false he] at hs
      have : b = false := by
        first | (injection hs with hs; injection hs with hs; exact hs.symm) | (simp [bindS] at hs; exact hs.symm)
      rw [this]
      exact ⟨fun e => by (cases e), fun g => absurd g.ep he⟩
theorem good_rt {st : TStore} (h : GoodS st) (hr : Ups st.2.2.2) : Rt st := by
  obtain ⟨k1, k2, k3, k4, k5⟩ := diskB_S h.dk
  have := scanF_len 0 0 st.1.1
  have hn := h.nx
  exact ⟨⟨h.ep.1, h.ep.2, k2, k3, by simp only [scanL] at hn; omega, st.2.2.2, hr, sameUpsB_refl _⟩, hr, k1⟩
theorem good_ups {st : TStore} (h : GoodS st) : Ups st.2.2.2 := foldAll_ups ups_nil (scanF_good 0 0 st.1.1) h.up
theorem foldAll_app : ∀ (l l' : List TRec) (us : List TUp), foldAll us (l ++ l') = (foldAll us l).bind fun us' => foldAll us' l'
  | [], l', us => rfl
  | r :: l, l', us => by
    simp only [List.cons_append, foldAll]
    cases foldOne us r with
    | none => rfl
    | some us' => exact foldAll_app l l' us'
theorem lastE_app (l : List TRec) (r : TRec) (e : Int) : lastE e (l ++ [r]) = r.1 := by
  induction l generalizing e with
  | nil => rfl
  | cons x l ih => exact ih x.1
theorem good_wrote {st : TStore} (h : GoodS st) {r : TRec} (hr : RecG r) (h1 : r.1 = st.2.1) (h2 : r.2.1 = st.2.2.1) (hlt : st.2.2.1 < (st.1.1.length : Int)) {us : List TUp} (hf : foldOne st.2.2.2 r = some us) :
    GoodS (wrote st r us) ∧ scanL (wrote st r us).1.1 = scanL st.1.1 ++ [r] := by
  obtain ⟨k1, k2, k3, k4, k5⟩ := diskB_S h.dk
  have hn := h.nx
  generalize hL : scanL st.1.1 = L at *
  have hll : L.length ≤ st.1.1.length := by rw [← hL]; exact scanF_len 0 0 st.1.1
  have hlt' : L.length < st.1.1.length := by omega
  have hto : st.2.2.1.toNat = L.length := by omega
  have hset : st.1.1.set L.length (putRec r) = st.1.1.take L.length ++ putRec r :: st.1.1.drop (L.length + 1) := by
    rw [List.set_eq_take_append_cons_drop, if_pos hlt']
  have htake : scanF 0 0 (st.1.1.take L.length) = L := by
    have := scanF_take 0 0 st.1.1
    rw [show scanF 0 0 st.1.1 = L from hL] at this
    exact this
  have hgo : goesOn (lastE 0 L) L.length (putRec r) = true := by
    simp only [goesOn, getRec_put hr, Bool.true_and]
    rw [h1, h2, dec_true (by omega), dec_false (by have := h.le; rw [hL] at this; omega)]
    rfl
  have htl := h.tl
  rw [hL] at htl
  have hscan : scanL (wrote st r us).1.1 = L ++ [r] := by
    show scanF 0 0 (st.1.1.set st.2.2.1.toNat (putRec r)) = _
    rw [hto, hset, scanF_app _ _ _ _ (by rw [htake, List.length_take]; omega), htake]
    congr 1
    have hle : (st.1.1.take L.length).length = L.length := by rw [List.length_take]; omega
    simp only [scanF, hle, Nat.zero_add, hgo, if_true, getRec_put hr]
    congr 1
    refine scanF_stop _ _ _ fun s hs => ?_
    have hmem : s ∈ st.1.1.drop (L.length + 1) := List.mem_of_mem_head? hs
    have hmem2 : s ∈ st.1.1.drop L.length := by
      rw [List.drop_eq_getElem_cons hlt']
      exact List.mem_cons_of_mem _ hmem
    have := List.all_eq_true.1 htl s hmem2
    simp only [newer, Bool.not_eq_true', Bool.and_eq_false_iff, decide_eq_false_iff_not] at this
    simp only [goesOn, h1]
    rcases this with h3 | h3
    · rw [h3]; rfl
    · rw [dec_true (show (getRec s).1.1 < st.2.1 by omega)]
      simp
  have hlen : (L ++ [r]).length = L.length + 1 := by simp
  refine ⟨⟨?_, h.ep, ?_, ?_, ?_, ?_⟩, hscan⟩
  · refine diskB_of ?_ ?_ (fun s hs => ?_) k5
    · show (st.1.1.set _ _).length = _; rw [List.length_set]; exact k2
    · show (st.1.1.set _ _).length ≤ _; rw [List.length_set]; exact k3
    · rcases List.mem_or_eq_of_mem_set hs with hs | rfl
      · exact k4 s hs
      · exact putRec_64 hr.1
  · have hup := h.up
    rw [hL] at hup
    rw [hscan, foldAll_app, hup]
    show foldAll st.2.2.2 [r] = some us
    simp only [foldAll, hf]
  · rw [hscan, hlen]
    show st.2.2.1 + 1 = _
    omega
  · rw [hscan, lastE_app, h1]
    exact Int.le_refl _
  · rw [hscan, hlen]
    show ((st.1.1.set st.2.2.1.toNat (putRec r)).drop (L.length + 1)).all _ = true
    rw [hto, List.drop_set_of_lt (by omega)]
    rw [List.drop_eq_getElem_cons hlt', List.all_cons, Bool.and_eq_true] at htl
    exact htl.2

/-- Sectors behind a crash: of each either what was written, or what was sure. -/
def mixL (now sure : List ByteArray) (k : List Bool) : List ByteArray := (List.range now.length).map fun i => bif k.getD i false then now.getD i ⟨#[]⟩ else sure.getD i ⟨#[]⟩
def fallF (d : TDisk) (k : List Bool) : TDisk := (mixL d.1 d.2 k, mixL d.1 d.2 k)
theorem mixL_len (now sure : List ByteArray) (k : List Bool) : (mixL now sure k).length = now.length := by simp [mixL]
theorem mixL_get {now sure : List ByteArray} {k : List Bool} (h : now.length = sure.length) {i : Nat} (hi : i < now.length) : (mixL now sure k)[i]? = if k.getD i false = true then now[i]? else sure[i]? := by
  simp only [mixL, List.getElem?_map, List.getElem?_range hi, Option.map_some]
  rw [List.getElem?_eq_getElem hi, List.getElem?_eq_getElem (show i < sure.length by omega)]
  have e1 : now.getD i ⟨#[]⟩ = now[i] := by simp [List.getD, hi]
  have e2 : sure.getD i ⟨#[]⟩ = sure[i]'(by omega) := by simp [List.getD, show i < sure.length by omega]
  rw [e1, e2]
  by_cases hb : k.getD i false = true
  · rw [if_pos hb, hb]; rfl
  · rw [if_neg hb, Bool.eq_false_iff.2 hb]; rfl
def segL {α : Type} (l x : List α) (i : Nat) : List α := l.take i ++ x.drop i
theorem segL_len {α : Type} {l x : List α} (h : l.length = x.length) (i : Nat) : (segL l x i).length = x.length := by simp [segL]; omega
theorem segL_set {α : Type} {l x : List α} (h : l.length = x.length) {i : Nat} (hi : i < l.length) : (segL l x i).set i l[i] = segL l x (i + 1) := by
  have hl : (l.take i).length = i := by rw [List.length_take]; omega
  unfold segL
  rw [List.drop_eq_getElem_cons (show i < x.length by omega)]
  have e : (l.take i ++ x[i]'(by omega) :: x.drop (i + 1)).set i l[i] = l.take i ++ (x[i]'(by omega) :: x.drop (i + 1)).set (i - (l.take i).length) l[i] := List.set_append_right _ _ (by omega)
  rw [e, hl, Nat.sub_self, List.set_cons_zero, List.take_succ_eq_append_getElem hi, List.append_assoc]
  rfl
theorem segL_same {α : Type} {l x : List α} (h : l.length = x.length) {i : Nat} (hi : i < l.length) (he : l[i]? = x[i]?) : segL l x i = segL l x (i + 1) := by
  unfold segL
  rw [List.drop_eq_getElem_cons (show i < x.length by omega), List.take_succ_eq_append_getElem hi, List.append_assoc]
  rw [List.getElem?_eq_getElem hi, List.getElem?_eq_getElem (show i < x.length by omega)] at he
  injection he with he
  rw [he]
  rfl
theorem segL_get {α : Type} {l x : List α} (h : l.length = x.length) {i : Nat} (hi : i < x.length) : (segL l x i)[i]? = x[i]? := by
  unfold segL
  rw [List.getElem?_append_right (by rw [List.length_take]; omega), List.length_take, Nat.min_eq_left (by omega), Nat.sub_self, List.getElem?_drop, Nat.add_zero]
theorem s_fall_eq (d : TDisk) (k : List Bool) (hd : diskB d = true) : P_s_FallDisk d k = some (fallF d k, ()) := by
  obtain ⟨hS, hlen, h200, _, _⟩ := diskB_S hd
  have hml := mixL_len d.1 d.2 k
  simp only [P_s_FallDisk, B_s_FallDisk, s_copyDisk_eq d hS, s_DiskOk_eq, hd, bO, Bool.not_true, cond_false]
  have key := loopO_count (L_s_FallDisk_0 k) (fun i => ((i : Int), segL (mixL d.1 d.2 k) d.1 i, segL (mixL d.1 d.2 k) d.2 i, ())) d.1.length (fallF d k, ()) (fun i hi => ?_) ?_
  · exact key
  · have l1 := segL_len (l := mixL d.1 d.2 k) (x := d.1) hml i
    have l2 := segL_len (l := mixL d.1 d.2 k) (x := d.2) (by omega) i
    have g1 := segL_get (l := mixL d.1 d.2 k) (x := d.1) hml hi
    have g2 := segL_get (l := mixL d.1 d.2 k) (x := d.2) (by omega) (show i < d.2.length by omega)
    have hm := mixL_get (k := k) hlen hi
    have hmi : i < (mixL d.1 d.2 k).length := by omega
    simp only [L_s_FallDisk_0, l1]
    rw [dec_true (show (i : Int) < (d.1.length : Int) by omega)]
    have hb : (bif decide ((i : Int) < (k.length : Int)) then bif decide (0 ≤ (i : Int)) then bif decide ((i : Int) < (k.length : Int)) then (some ((rd .bool k (i : Int)), ()) : Option (Bool × Unit)) else none else none else some (false, ())) = some (k.getD i false, ()) := by
      by_cases hik : i < k.length
      · rw [dec_true (show (i : Int) < (k.length : Int) by omega), dec_true (show (0 : Int) ≤ (i : Int) by omega)]
        simp only [cond_true]
        rw [rd_nat (k := .bool) hik]
        simp [List.getD, hik]
      · rw [dec_false (show ¬ (i : Int) < (k.length : Int) by omega)]
        simp [List.getD, List.getElem?_eq_none (show k.length ≤ i by omega)]
    rw [hb]
    simp only [cond_true, bO, l2, hlen]
    rw [dec_true (show (0 : Int) ≤ (i : Int) by omega), dec_true (show (i : Int) < (d.2.length : Int) by omega), w64 (by omega) (by omega)]
    have r1 : rd .str (segL (mixL d.1 d.2 k) d.1 i) (i : Int) = d.1[i] := by
      rw [rd_str (by omega)]
      have := g1
      rw [List.getElem?_eq_getElem (by omega), List.getElem?_eq_getElem hi] at this
      injection this
    have r2 : rd .str (segL (mixL d.1 d.2 k) d.2 i) (i : Int) = d.2[i] := by
      rw [rd_str (by omega)]
      have := g2
      rw [List.getElem?_eq_getElem (by omega), List.getElem?_eq_getElem (show i < d.2.length by omega)] at this
      injection this
    rw [r1, r2, Int.toNat_natCast]
    rw [List.getElem?_eq_getElem hmi, List.getElem?_eq_getElem hi, List.getElem?_eq_getElem (show i < d.2.length by omega)] at hm
    cases hkb : k.getD i false with
    | true =>
      rw [hkb, if_pos rfl] at hm
      injection hm with hm
      simp only [cond_true]
      rw [← hm, segL_set (by omega) hmi, segL_same (l := mixL d.1 d.2 k) (x := d.1) hml hmi (by rw [List.getElem?_eq_getElem hmi, List.getElem?_eq_getElem hi, hm])]
      rfl
    | false =>
      rw [hkb, if_neg (by simp)] at hm
      injection hm with hm
      simp only [cond_true, cond_false]
      rw [← hm, segL_set hml hmi, segL_same (l := mixL d.1 d.2 k) (x := d.2) (by omega) hmi (by rw [List.getElem?_eq_getElem hmi, List.getElem?_eq_getElem (show i < d.2.length by omega), hm])]
      rfl
  · have e1 : segL (mixL d.1 d.2 k) d.1 d.1.length = mixL d.1 d.2 k := by unfold segL; rw [List.drop_length, List.append_nil, List.take_of_length_le (by omega)]
    have e2 : segL (mixL d.1 d.2 k) d.2 d.1.length = mixL d.1 d.2 k := by unfold segL; rw [hlen, List.drop_length, List.append_nil, List.take_of_length_le (by omega)]
    simp only [L_s_FallDisk_0, e1, e2]
    rw [dec_false (by omega)]
    rfl
theorem i_fall_eq (d : TDisk) (k : List Bool) (hd : diskB d = true) : P_i_FallDisk d k = some (fallF d k, ()) := by
  obtain ⟨d', h1, h2, _⟩ := fall_eq d k (diskB_S hd).1
  rw [s_fall_eq d k hd] at h1
  rw [h2, ← h1]
theorem scanF_take' (last : Int) (i : Nat) (l : List ByteArray) (j : Nat) : scanF last i (l.take j) = (scanF last i l).take j := by
  induction l generalizing last i j with
  | nil => simp [scanF]
  | cons s l ih =>
    cases j with
    | zero => simp [scanF]
    | succ j =>
      simp only [List.take_succ_cons, scanF_cons, ih]
      cases goesOn last i s <;> simp
theorem scanF_get (last : Int) (j : Nat) (l : List ByteArray) (i : Nat) (hi : i < (scanF last j l).length) : ∃ s, l[i]? = some s ∧ getRec s = ((scanF last j l)[i], true, ()) := by
  induction l generalizing last j i with
  | nil => simp [scanF] at hi
  | cons s l ih =>
    have e := scanF_cons last j s l
    cases hg : goesOn last j s with
    | false => rw [hg] at e; rw [e] at hi; simp at hi
    | true =>
      rw [hg] at e
      simp only [cond_true] at e
      cases i with
      | zero =>
        refine ⟨s, rfl, ?_⟩
        simp only [goesOn, Bool.and_eq_true] at hg
        have h0 : (scanF last j (s :: l))[0] = (getRec s).1 := by simp only [e]; rfl
        rw [h0]
        have := hg.1.1
        generalize getRec s = g at this
        obtain ⟨a, b, u⟩ := g
        simp only at this
        rw [this]
      | succ i =>
        have hi2 : i < (scanF (getRec s).1.1 (j + 1) l).length := by rw [e] at hi; simpa using hi
        obtain ⟨s', h1, h2⟩ := ih _ _ i hi2
        refine ⟨s', h1, ?_⟩
        rw [h2]
        congr 1
        simp only [e, List.getElem_cons_succ]
/-- Sectors that begin as others do, up to their records. -/
theorem scan_split {now x : List ByteArray} {j : Nat} (hj : j ≤ (scanL now).length) (hx : x.take j = now.take j) (hlen : x.length = now.length) : scanL x = (scanL now).take j ++ scanF (lastE 0 ((scanL now).take j)) j (x.drop j) := by
  have hll := scanF_len 0 0 now
  have hs : scanF 0 0 (x.take j) = (scanL now).take j := by rw [hx, scanF_take']; rfl
  have h1 : (scanF 0 0 (x.take j)).length = (x.take j).length := by
    rw [hs, List.length_take, List.length_take]
    simp only [scanL] at hj ⊢
    omega
  have := scanF_app 0 0 (x.take j) (x.drop j) h1
  rw [List.take_append_drop, hs] at this
  have hj2 : (x.take j).length = j := by rw [List.length_take]; simp only [scanL] at hj; omega
  rw [hj2, Nat.zero_add] at this
  exact this
theorem scan_end {now : List ByteArray} {j : Nat} (hj : (scanL now).length = j) : scanF (lastE 0 (scanL now)) j (now.drop j) = [] := by
  have h := scan_split (now := now) (x := now) (j := j) (by omega) rfl rfl
  rw [← hj, List.take_length] at h
  rw [← hj]
  have h2 : scanL now ++ [] = scanL now ++ scanF (lastE 0 (scanL now)) (scanL now).length (now.drop (scanL now).length) := by rw [List.append_nil]; exact h
  exact (List.append_cancel_left h2).symm
theorem good_ep {st : TStore} (h : GoodS st) : ∀ s ∈ st.1.1, (getRec s).2.1 = true → (getRec s).1.1 ≤ st.2.1 := by
  intro s hs hr
  obtain ⟨i, hi, rfl⟩ := List.getElem_of_mem hs
  by_cases hl : i < (scanL st.1.1).length
  · obtain ⟨s', h1, h2⟩ := scanF_get 0 0 st.1.1 i hl
    rw [List.getElem?_eq_getElem hi] at h1
    injection h1 with h1
    rw [h1, h2]
    have := (lastE_ge 0 0 st.1.1).2 _ (List.getElem_mem hl)
    exact Int.le_trans this h.le
  · have hm : st.1.1[i] ∈ st.1.1.drop (scanL st.1.1).length := by
      rw [List.mem_iff_getElem]
      refine ⟨i - (scanL st.1.1).length, by rw [List.length_drop]; omega, ?_⟩
      rw [List.getElem_drop]
      congr 1
      omega
    have := List.all_eq_true.1 h.tl _ hm
    simp only [newer, hr, Bool.true_and, Bool.not_eq_true', decide_eq_false_iff_not] at this
    omega
/-- What is known of a store's disk: the first c records are sure. -/
structure Dur (st : TStore) (c : Nat) : Prop where
  g : GoodS st
  le : c ≤ (scanL st.1.1).length
  out : ∀ i, ¬ (c ≤ i ∧ i < (scanL st.1.1).length) → st.1.2[i]? = st.1.1[i]?
  inn : ∀ i s, c ≤ i → i < (scanL st.1.1).length → st.1.2[i]? = some s → newer st.2.1 s = false
  ep : ∀ i (h : i < (scanL st.1.1).length), c ≤ i → (scanL st.1.1)[i].1 = st.2.1
  sc : scanL st.1.2 = (scanL st.1.1).take c
theorem newer_stops {e : Int} {s : ByteArray} (h : newer e s = false) (i : Nat) : goesOn e i s = false := by
  simp only [newer, Bool.and_eq_false_iff, decide_eq_false_iff_not] at h
  simp only [goesOn]
  rcases h with h | h
  · rw [h]; rfl
  · rw [dec_true (show (getRec s).1.1 < e by omega)]; simp
theorem lastE_take {L : List TRec} {e : Int} {j : Nat} (h0 : 0 < j) (hj : j ≤ L.length) : lastE e (L.take j) = (L[j - 1]'(by omega)).1 := by
  induction L generalizing e j with
  | nil => simp at hj; omega
  | cons r L ih =>
    cases j with
    | zero => omega
    | succ j =>
      simp only [List.take_succ_cons, lastE]
      cases j with
      | zero => simp [lastE]
      | succ j =>
        rw [ih (by omega) (by simpa using hj)]
        simp
theorem dur_mix_get {st : TStore} {c : Nat} (h : Dur st c) (k : List Bool) {i : Nat} (hi : i < st.1.1.length) (hk : k.getD i false = true ∨ ¬ (c ≤ i ∧ i < (scanL st.1.1).length)) : (mixL st.1.1 st.1.2 k)[i]? = st.1.1[i]? := by
  obtain ⟨_, k2, _⟩ := diskB_S h.g.dk
  rw [mixL_get k2 hi]
  split
  · rfl
  · rename_i hn
    rcases hk with hk | hk
    · exact absurd hk hn
    · exact h.out i hk
theorem take_next {α : Type} {x now : List α} {j : Nat} (hx : x.take j = now.take j) (hj : j < now.length) (hlen : x.length = now.length) (he : x[j]? = now[j]?) : x.take (j + 1) = now.take (j + 1) := by
  rw [List.take_succ_eq_append_getElem (show j < x.length by omega), List.take_succ_eq_append_getElem hj, hx]
  rw [List.getElem?_eq_getElem (show j < x.length by omega), List.getElem?_eq_getElem hj] at he
  injection he with he
  rw [he]
theorem dur_scan {st : TStore} {c : Nat} (h : Dur st c) (k : List Bool) : ∃ m, c ≤ m ∧ m ≤ (scanL st.1.1).length ∧ scanL (mixL st.1.1 st.1.2 k) = (scanL st.1.1).take m := by
  obtain ⟨_, k2, k3, _⟩ := diskB_S h.g.dk
  have hml := mixL_len st.1.1 st.1.2 k
  have hll : (scanL st.1.1).length ≤ st.1.1.length := scanF_len 0 0 st.1.1
  have go : ∀ (n j : Nat), j + n = (scanL st.1.1).length → c ≤ j → (mixL st.1.1 st.1.2 k).take j = st.1.1.take j → ∃ m, c ≤ m ∧ m ≤ (scanL st.1.1).length ∧ scanL (mixL st.1.1 st.1.2 k) = (scanL st.1.1).take m := by
    intro n
    induction n with
    | zero =>
      intro j hj hc hx
      rw [Nat.add_zero] at hj
      refine ⟨j, hc, by omega, ?_⟩
      rw [scan_split (by omega) hx hml, hj, List.take_length]
      have hdrop : (mixL st.1.1 st.1.2 k).drop (scanL st.1.1).length = st.1.1.drop (scanL st.1.1).length := by
        refine List.ext_getElem? fun i => ?_
        rw [List.getElem?_drop, List.getElem?_drop]
        by_cases hi : (scanL st.1.1).length + i < st.1.1.length
        · exact dur_mix_get h k hi (.inr (by omega))
        · rw [List.getElem?_eq_none (by omega), List.getElem?_eq_none (by omega)]
      rw [hdrop, scan_end rfl, List.append_nil]
    | succ n ih =>
      intro j hj hc hx
      have hjl : j < st.1.1.length := by omega
      cases hk : k.getD j false with
      | true => exact ih (j + 1) (by omega) (by omega) (take_next hx hjl hml (dur_mix_get h k hjl (.inl hk)))
      | false =>
        refine ⟨j, hc, by omega, ?_⟩
        rw [scan_split (by omega) hx hml]
        have hs : scanF (lastE 0 ((scanL st.1.1).take j)) j ((mixL st.1.1 st.1.2 k).drop j) = [] := by
          refine scanF_stop _ _ _ fun s hs => ?_
          have hs2 : (mixL st.1.1 st.1.2 k)[j]? = some s := by
            rw [List.head?_eq_getElem?, List.getElem?_drop, Nat.add_zero] at hs
            exact hs
          rw [mixL_get k2 hjl, hk, if_neg (by simp)] at hs2
          by_cases hjc : j = c
          · have hsp := scan_split (now := st.1.2) (x := st.1.2) (j := c) (by rw [h.sc, List.length_take]; omega) rfl rfl
            rw [h.sc, List.take_take, Nat.min_self] at hsp
            have hnil : scanF (lastE 0 ((scanL st.1.1).take c)) c (st.1.2.drop c) = [] := by
              have h2 : (scanL st.1.1).take c ++ [] = (scanL st.1.1).take c ++ scanF (lastE 0 ((scanL st.1.1).take c)) c (st.1.2.drop c) := by rw [List.append_nil]; exact hsp
              exact (List.append_cancel_left h2).symm
            rw [hjc] at hs2 ⊢
            have hcl : c < st.1.2.length := (List.getElem?_eq_some_iff.1 hs2).1
            rw [List.drop_eq_getElem_cons hcl, scanF_cons] at hnil
            have : st.1.2[c] = s := by rw [List.getElem?_eq_getElem hcl] at hs2; injection hs2
            rw [this] at hnil
            cases hg : goesOn (lastE 0 ((scanL st.1.1).take c)) c s with
            | false => rfl
            | true => rw [hg] at hnil; cases hnil
          · rw [lastE_take (by omega) (by omega), h.ep (j - 1) (by omega) (by omega)]
            exact newer_stops (h.inn j s hc (by omega) hs2) _
        rw [hs, List.append_nil]
  refine go ((scanL st.1.1).length - c) c (by have := h.le; omega) (Nat.le_refl _) ?_
  refine List.ext_getElem? fun i => ?_
  by_cases hi : i < c
  · rw [List.getElem?_take_of_lt hi, List.getElem?_take_of_lt hi]
    exact dur_mix_get h k (by have := h.le; omega) (.inr (by omega))
  · rw [List.getElem?_eq_none (by rw [List.length_take]; omega), List.getElem?_eq_none (by rw [List.length_take]; omega)]
theorem mix_mem {now sure : List ByteArray} {k : List Bool} (h : now.length = sure.length) {s : ByteArray} (hs : s ∈ mixL now sure k) : s ∈ now ∨ s ∈ sure := by
  obtain ⟨i, hi, rfl⟩ := List.getElem_of_mem hs
  have hi' : i < now.length := by rw [mixL_len] at hi; exact hi
  have := mixL_get (k := k) h hi'
  rw [List.getElem?_eq_getElem hi] at this
  split at this
  · exact .inl (List.mem_of_getElem? this.symm)
  · exact .inr (List.mem_of_getElem? this.symm)
theorem dur_sure_ep {st : TStore} {c : Nat} (h : Dur st c) : ∀ s ∈ st.1.2, (getRec s).2.1 = true → (getRec s).1.1 ≤ st.2.1 := by
  intro s hs hr
  obtain ⟨i, hi, rfl⟩ := List.getElem_of_mem hs
  by_cases hb : c ≤ i ∧ i < (scanL st.1.1).length
  · have := h.inn i _ hb.1 hb.2 (List.getElem?_eq_getElem hi)
    simp only [newer, hr, Bool.true_and, decide_eq_false_iff_not] at this
    omega
  · have := h.out i hb
    rw [List.getElem?_eq_getElem hi] at this
    exact good_ep h.g _ (List.mem_of_getElem? this.symm) hr
theorem foldAll_take : ∀ (l : List TRec) (us us' : List TUp) (m : Nat), foldAll us l = some us' → ∃ u, foldAll us (l.take m) = some u
  | _, us, _, 0, _ => ⟨us, by simp [foldAll]⟩
  | [], us, us', m + 1, h => ⟨us', by simpa using h⟩
  | r :: l, us, us', m + 1, h => by
    simp only [foldAll] at h
    simp only [List.take_succ_cons, foldAll]
    split at h
    · rename_i u1 e1
      exact foldAll_take l u1 us' m h
    · cases h
theorem topL_lt {l : List ByteArray} {b : Int} (hb : -1 ≤ b) (h : ∀ s ∈ l, (getRec s).2.1 = true → (getRec s).1.1 ≤ b) : topL l ≤ b := by
  have h1 := foldl_top (b + 1) l (-1)
  have h2 : (l.all fun s => !newer (b + 1) s) = true := List.all_eq_true.2 fun s hs => by
    simp only [newer, Bool.not_eq_true', Bool.and_eq_false_iff, decide_eq_false_iff_not]
    cases hr : (getRec s).2.1 with
    | false => exact .inl rfl
    | true => have := h s hs hr; exact .inr (by omega)
  rw [h2, dec_true (show (-1 : Int) < b + 1 by omega), Bool.and_true] at h1
  have := of_decide_eq_true h1
  show l.foldl topOf (-1) ≤ b
  omega
/-- What opens of sectors. -/
def openedF (x : List ByteArray) (us : List TUp) : TStore := ((x, x), (topL x + 1, ((List.length (scanL x) : Int), us)))
theorem opened_good {x : List ByteArray} {us : List TUp} (hd : diskB (x, x) = true) (hu : foldAll [] (scanL x) = some us) (ht : topL x + 1 ≤ 10000) : GoodS (openedF x us) := by
  have h0 := topL_le x
  refine ⟨hd, ⟨by show 0 ≤ topL x + 1; omega, ht⟩, hu, rfl, ?_, ?_⟩
  · show lastE 0 (scanL x) ≤ topL x + 1
    have hg : ∀ (i : Nat) (hi : i < (scanL x).length), ∃ s, x[i]? = some s ∧ getRec s = ((scanL x)[i], true, ()) := scanF_get 0 0 x
    by_cases hl : 0 < (scanL x).length
    · have e := lastE_take (L := scanL x) (e := 0) (j := (scanL x).length) hl (Nat.le_refl _)
      rw [List.take_length] at e
      rw [e]
      obtain ⟨s, h1, h2⟩ := hg ((scanL x).length - 1) (by omega)
      have h3 := topL_ge (List.mem_of_getElem? h1) (by rw [h2])
      rw [h2] at h3
      have h5 : ((scanL x)[(scanL x).length - 1]'(by omega)).1 ≤ topL x := h3
      have h6 : @LE.le Int _ ((scanL x)[(scanL x).length - 1]'(by omega)).1 (topL x + 1) := by omega
      exact h6
    · rw [List.length_eq_zero_iff.1 (show (scanL x).length = 0 by omega)]
      show (0 : Int) ≤ _
      omega
  · refine List.all_eq_true.2 fun s hs => ?_
    have hs2 : s ∈ x := List.mem_of_mem_drop hs
    simp only [newer, Bool.not_eq_true', Bool.and_eq_false_iff, decide_eq_false_iff_not]
    cases hr : (getRec s).2.1 with
    | false => exact .inl rfl
    | true =>
      have := topL_ge hs2 hr
      refine .inr ?_
      show ¬ (getRec s).1.1 ≥ topL x + 1
      omega
theorem synced_dur {st : TStore} (h : GoodS st) : Dur ((st.1.1, st.1.1), st.2) (scanL st.1.1).length :=
  ⟨⟨diskB_now h.dk, h.ep, h.up, h.nx, h.le, h.tl⟩, Nat.le_refl _, fun i _ => rfl, fun i s h1 h2 _ => by (have h3 : i < (scanL st.1.1).length := h2; omega), fun i h1 h2 => by (have h3 : i < (scanL st.1.1).length := h1; omega), (List.take_length).symm⟩
theorem opened_dur {x : List ByteArray} {us : List TUp} (h : GoodS (openedF x us)) : Dur (openedF x us) (scanL x).length := synced_dur h
theorem dur_wrote {st : TStore} {c : Nat} (h : Dur st c) {r : TRec} (hr : RecG r) (h1 : r.1 = st.2.1) (h2 : r.2.1 = st.2.2.1) (hlt : st.2.2.1 < (st.1.1.length : Int)) {us : List TUp} (hf : foldOne st.2.2.2 r = some us) : Dur (wrote st r us) c := by
  obtain ⟨hg, hsc⟩ := good_wrote h.g hr h1 h2 hlt hf
  have hnx := h.g.nx
  have hto : st.2.2.1.toNat = (scanL st.1.1).length := by omega
  have hll : (scanL st.1.1).length < st.1.1.length := by omega
  have hlen : ((scanL st.1.1) ++ [r]).length = (scanL st.1.1).length + 1 := by simp
  have hle := h.le
  refine ⟨hg, by rw [hsc, hlen]; omega, fun i hi => ?_, fun i s hc hi hs => ?_, fun i hi hc => ?_, ?_⟩
  · rw [hsc, hlen] at hi
    show st.1.2[i]? = (st.1.1.set st.2.2.1.toNat (putRec r))[i]?
    rw [hto, List.getElem?_set_ne (by omega)]
    exact h.out i (by omega)
  · rw [hsc, hlen] at hi
    by_cases hi2 : i < (scanL st.1.1).length
    · exact h.inn i s hc hi2 hs
    · have e := h.out i (by omega)
      have hs' : st.1.2[i]? = some s := hs
      rw [e] at hs'
      have hm : s ∈ st.1.1.drop (scanL st.1.1).length := by
        rw [List.mem_iff_getElem?]
        exact ⟨i - (scanL st.1.1).length, by rw [List.getElem?_drop, show (scanL st.1.1).length + (i - (scanL st.1.1).length) = i by omega]; exact hs'⟩
      have := List.all_eq_true.1 h.g.tl s hm
      have h7 : newer st.2.1 s = false := by simpa using this
      exact h7
  · have hi' := hi
    rw [hsc, hlen] at hi'
    have e : (scanL (wrote st r us).1.1)[i] = ((scanL st.1.1) ++ [r])[i]'(by omega) := by simp only [hsc]
    rw [e]
    by_cases hi2 : i < (scanL st.1.1).length
    · rw [List.getElem_append_left hi2]
      exact h.ep i hi2 hc
    · rw [List.getElem_append_right (by omega)]
      simp only [show i - (scanL st.1.1).length = 0 by omega, List.getElem_cons_zero]
      exact h1
  · show scanL st.1.2 = _
    rw [hsc, List.take_append_of_le_length hle]
    exact h.sc
theorem dur_crash {st : TStore} {c : Nat} (h : Dur st c) (k : List Bool) (hep : st.2.1 ≤ 9999) : ∃ m us, c ≤ m ∧ m ≤ (scanL st.1.1).length ∧ scanL (mixL st.1.1 st.1.2 k) = (scanL st.1.1).take m ∧ foldAll [] ((scanL st.1.1).take m) = some us ∧
    topL (mixL st.1.1 st.1.2 k) ≤ st.2.1 ∧ diskB (fallF st.1 k) = true ∧ GoodS (openedF (mixL st.1.1 st.1.2 k) us) := by
  obtain ⟨_, k2, k3, k4, k5⟩ := diskB_S h.g.dk
  obtain ⟨m, h1, h2, h3⟩ := dur_scan h k
  obtain ⟨us, hu⟩ := foldAll_take _ _ _ m h.g.up
  have hml := mixL_len st.1.1 st.1.2 k
  have hdb : diskB (mixL st.1.1 st.1.2 k, mixL st.1.1 st.1.2 k) = true := by
    have hall : ∀ s ∈ mixL st.1.1 st.1.2 k, s.size ≤ 64 := fun s hs => (mix_mem k2 hs).elim (k4 s) (k5 s)
    exact diskB_of rfl (by simp only [hml]; exact k3) hall hall
  have ht : topL (mixL st.1.1 st.1.2 k) ≤ st.2.1 := topL_lt (by have := h.g.ep.1; omega) fun s hs hr => (mix_mem k2 hs).elim (fun hs => good_ep h.g s hs hr) (fun hs => dur_sure_ep h s hs hr)
  exact ⟨m, us, h1, h2, h3, hu, ht, hdb, opened_good hdb (by rw [h3]; exact hu) (by omega)⟩

/-- A store with some records more, of one name. -/
inductive Steps (id : ByteArray) (st : TStore) : TStore → Prop
  | refl : Steps id st st
  | step {st1 : TStore} {r : TRec} {us : List TUp} : Steps id st st1 → RecG r → r.1 = st1.2.1 → r.2.1 = st1.2.2.1 → st1.2.2.1 < (st1.1.1.length : Int) → r.2.2.2.1 = id → (r.2.2.1 = 1 → r.2.2.2.2.1 ≤ 1000000) → foldOne st1.2.2.2 r = some us → Steps id st (wrote st1 r us)
theorem makeF_steps {st : TStore} {id : ByteArray} {n : Int} (h : Rt st) : Steps id st (makeF st id n).1 := by
  unfold makeF
  split
  · rename_i h1
    split
    · exact Steps.refl
    · rename_i h2
      split
      · exact Steps.refl
      · rename_i h3
        have hr := rec_ok h.g 1 n id h1.1 (fun hx => h3 (.inl hx)) (.inl ⟨rfl, h1.2.1, by omega⟩)
        exact .step Steps.refl ⟨hr, byt_nil⟩ rfl rfl (by omega) rfl (fun _ => h1.2.2) (make_fold h2 (fun hx => h3 (.inr hx)))
  · exact Steps.refl
theorem doneF_steps {st : TStore} {id : ByteArray} {n : Int} (h : Rt st) : Steps id st (doneF st id n).1 := by
  unfold doneF
  split
  · rename_i h1
    split
    · rename_i h2
      split
      · exact Steps.refl
      · rename_i h3
        split
        · exact Steps.refl
        · split
          · exact Steps.refl
          · rename_i h5
            split
            · exact Steps.refl
            · rename_i h6
              have hr := rec_ok h.g 3 0 id h1 h6 (.inr ⟨.inl rfl, rfl⟩)
              exact .step Steps.refl ⟨hr, byt_nil⟩ rfl rfl (by omega) rfl (fun e => by cases e) (done_fold h.up h2 h3 h5)
    · exact Steps.refl
  · exact Steps.refl
theorem dropF_steps {st : TStore} {id : ByteArray} (h : Rt st) : Steps id st (dropF st id).1 := by
  unfold dropF
  split
  · rename_i h1
    split
    · rename_i h2
      split
      · exact Steps.refl
      · rename_i h3
        have hr := rec_ok h.g 4 0 id h1 h3 (.inr ⟨.inr rfl, rfl⟩)
        exact .step Steps.refl ⟨hr, byt_nil⟩ rfl rfl (by omega) rfl (fun e => by cases e) (drop_fold h2)
    · exact Steps.refl
  · exact Steps.refl
theorem putAt_steps {st : TStore} {id : ByteArray} {off : Int} {dat : List Int} (hc : PutC st id off dat) : ∀ j, j ≤ nPc dat → Steps id st (putAt st id off dat j)
  | 0, _ => Steps.refl
  | j + 1, hj => by
    have hI := putI_at hc j (by omega)
    obtain ⟨hr, hf, _⟩ := put_step hc hI (by omega)
    have h1 := hc.nx.2
    have h2 := hI.nx
    have h3 := hI.len
    exact .step (putAt_steps hc j (by omega)) ⟨hr, byt_drop (byt_take hc.byt _) _⟩ rfl rfl (by omega) rfl (fun e => by cases e) hf
theorem putF_steps {st : TStore} {id : ByteArray} {off : Int} {dat : List Int} (h : Rt st) (hb : Byt dat) : Steps id st (putF st id off dat).1 := by
  unfold putF
  split
  · rename_i h1
    split
    · rename_i h3
      split
      · exact Steps.refl
      · rename_i h4
        split
        · exact Steps.refl
        · rename_i h5
          exact putAt_steps (putC_of h hb h1.1 h1.2 h3 h4 h5) _ (Nat.le_refl _)
    · exact Steps.refl
  · exact Steps.refl
theorem steps_dur {id : ByteArray} {st st' : TStore} (hs : Steps id st st') {c : Nat} (h : Dur st c) : Dur st' c ∧ st'.2.1 = st.2.1 ∧ st'.1.2 = st.1.2 ∧ st'.1.1.length = st.1.1.length ∧
    (∃ R, scanL st'.1.1 = scanL st.1.1 ++ R ∧ ∀ r ∈ R, r.2.2.2.1 = id) ∧ ∀ s ∈ st'.1.1, s ∈ st.1.1 ∨ ∃ r, RecG r ∧ r.2.2.2.1 = id ∧ s = putRec r := by
  induction hs with
  | refl => exact ⟨h, rfl, rfl, rfl, ⟨[], by simp, fun r hr => by cases hr⟩, fun s hs => .inl hs⟩
  | @step st1 r us h1 hr e1 e2 hlt hid _ hf ih =>
    obtain ⟨k1, k2, k3, k4, ⟨R, k5, k6⟩, k7⟩ := ih
    refine ⟨dur_wrote k1 hr e1 e2 hlt hf, k2, k3, by simp only [wrote, List.length_set]; exact k4, ?_, ?_⟩
    · refine ⟨R ++ [r], ?_, fun r' hr' => ?_⟩
      · rw [(good_wrote k1.g hr e1 e2 hlt hf).2, k5, List.append_assoc]
      · rcases List.mem_append.1 hr' with hr' | hr'
        · exact k6 r' hr'
        · rw [List.mem_singleton.1 hr']; exact hid
    · intro s hs
      rcases List.mem_or_eq_of_mem_set hs with hs | rfl
      · exact k7 s hs
      · exact .inr ⟨_, hr, hid, rfl⟩
theorem good_all {st : TStore} (h : GoodS st) : Rt st ∧ StoreS st ∧ P_s_StoreOk st = some (true, ()) ∧ P_i_StoreOk st = some (true, ()) := by
  have hU := good_ups h
  have hS := diskB_S h.dk
  obtain ⟨b, h1, h2, h3⟩ := storeOk_iff st hS.1.1 (fun u hu => (hU.2.2 u hu).2.2.2)
  rw [h3.2 h] at h1 h2
  exact ⟨good_rt h hU, ups_storeS hS.1 hU, h1, h2⟩
/-- A drawn store: not many crashes, and few names. -/
structure Drawn (k : Nat) (st : TStore) : Prop where
  dur : ∃ c, Dur st c
  ep : st.2.1 ≤ (k : Int)
  ids : ∀ s, s ∈ st.1.1 ∨ s ∈ st.1.2 → (getRec s).2.1 = true → (getRec s).1.2.2.2.1 ∈ [(⟨#[97]⟩ : ByteArray), (⟨#[98]⟩ : ByteArray), (⟨#[99]⟩ : ByteArray)]
theorem s_open_eq {x : List ByteArray} {us : List TUp} (h : GoodS (openedF x us)) : P_s_OpenStore_r99_0 (x, x) = some (openedF x us, true, ()) := by
  obtain ⟨hS, _, h200, _⟩ := diskB_S h.dk
  have hdk : diskB (x, x) = true := h.dk
  have hl : x.length ≤ 200 := h200
  have hll := scanF_len 0 0 x
  have hfs := s_FoldRecs_eq (scanL x) (by simp only [maxLen, scanL]; omega) (scanF_good 0 0 x)
  have hf : foldRecs (scanL x) = (us, true, ()) := by
    unfold foldRecs
    rw [show foldAll [] (scanL x) = some us from h.up]
  have htop := topL_le x
  have hep : topL x + 1 ≤ 10000 := h.ep.2
  simp only [P_s_OpenStore_r99_0, B_s_OpenStore_r99_0, s_DiskOk_eq, hdk, s_scan_eq (x, x) hS.1, hfs, hf, s_TopEpoch_eq (x, x) hS.1, s_copyDisk_eq (x, x) hS, bO, Bool.not_true, cond_false]
  rw [w64 (n := topL x + 1) (by omega) (by omega), dec_false (show ¬ topL x + 1 > 10000 by omega)]
  rfl
theorem i_open_eq {x : List ByteArray} {us : List TUp} (h : GoodS (openedF x us)) : P_i_OpenStore (x, x) = some (openedF x us, true, ()) := by
  obtain ⟨hS, _⟩ := diskB_S h.dk
  exact i_open_good (x, x) hS (scanL x) us (i_scan_eq (x, x) hS.1) (scanF_len 0 0 x) (scanF_good 0 0 x) (by
    have := h.up
    unfold foldRecs
    rw [show foldAll [] (scanL x) = some us from this]) h.dk h.ep.2
theorem scanF_none (last : Int) (i : Nat) (l : List ByteArray) (h : ∀ s ∈ l, (getRec s).2.1 = false) : scanF last i l = [] := scanF_stop _ _ _ fun s hs => by
  simp only [goesOn, h s (List.mem_of_mem_head? hs), Bool.false_and]
theorem getRec_empty : (getRec ⟨#[]⟩).2.1 = false := by
  unfold getRec recGood
  have h0 : (⟨#[]⟩ : ByteArray).size = 0 := rfl
  rw [h0, dec_false (by omega)]
  rfl
theorem newDisk_drawn (n : Int) (hn : n ≤ 200) : Drawn 0 (newDisk n, (0, (0, []))) := by
  have hall : ∀ s, s ∈ (newDisk n).1 ∨ s ∈ (newDisk n).2 → s = ⟨#[]⟩ := by
    intro s hs
    unfold newDisk at hs
    split at hs
    · rcases hs with hs | hs <;> exact (List.mem_replicate.1 hs).2
    · rcases hs with hs | hs <;> cases hs
  have hg : ∀ s ∈ (newDisk n).1, (getRec s).2.1 = false := fun s hs => by rw [hall s (.inl hs)]; exact getRec_empty
  have hsc : scanL (newDisk n).1 = [] := scanF_none _ _ _ hg
  have hsz : ∀ s, s ∈ (newDisk n).1 ∨ s ∈ (newDisk n).2 → s.size ≤ 64 := fun s hs => by rw [hall s hs]; show 0 ≤ 64; omega
  have hlen : (newDisk n).1.length = (newDisk n).2.length ∧ (newDisk n).1.length ≤ 200 := by
    unfold newDisk
    split <;> simp <;> omega
  have heq : (newDisk n).2 = (newDisk n).1 := by
    unfold newDisk
    split <;> rfl
  have hG : GoodS (newDisk n, (0, (0, []))) := by
    refine ⟨diskB_of hlen.1 hlen.2 (fun s hs => hsz s (.inl hs)) (fun s hs => hsz s (.inr hs)), by simp, ?_, ?_, ?_, ?_⟩
    · show foldAll [] (scanL (newDisk n).1) = _; rw [hsc]; rfl
    · show (0 : Int) = ((scanL (newDisk n).1).length : Int); rw [hsc]; rfl
    · show lastE 0 (scanL (newDisk n).1) ≤ 0; rw [hsc]; exact Int.le_refl _
    · refine List.all_eq_true.2 fun s hs => ?_
      have := hg s (List.mem_of_mem_drop hs)
      simp only [newer, this, Bool.false_and, Bool.not_false]
  refine ⟨⟨0, hG, Nat.zero_le _, fun i _ => by rw [show ((newDisk n, ((0 : Int), ((0 : Int), ([] : List TUp)))) : TStore).1.2 = (newDisk n).1 from heq], fun i s _ h2 _ => ?_, fun i h1 _ => ?_, ?_⟩, by simp, fun s hs hr => ?_⟩
  · have h2' : i < (scanL (newDisk n).1).length := h2
    rw [hsc] at h2'; simp at h2'
  · have h1' : i < (scanL (newDisk n).1).length := h1
    rw [hsc] at h1'; simp at h1'
  · show scanL (newDisk n).2 = (scanL (newDisk n).1).take 0
    rw [heq, hsc]; rfl
  · rw [hall s hs, getRec_empty] at hr; cases hr

def lenOf (st : TStore) (id : ByteArray) : Int := if upHas st.2.2.2 id = true then (List.length (rd kUp st.2.2.2 (upIns st.2.2.2 id : Int)).2.2.1 : Int) else 0
def codeResp (st : TStore) (code : Int) (id : ByteArray) : TResp :=
  if code = 2 then (404, -1) else if code = 3 ∨ code = 4 then (409, lenOf st id) else if code = 5 then (507, -1) else if code = 6 then (422, -1) else (400, -1)
def seeF (st : TStore) (r : TReq) : TResp :=
  if upHas st.2.2.2 r.2.1 = true then (if r.1 = 5 ∧ (rd kUp st.2.2.2 (upIns st.2.2.2 r.2.1 : Int)).2.2.2 = false then (409, lenOf st r.2.1) else (200, lenOf st r.2.1)) else (404, -1)
/-- What a request makes of a store, and its answer. -/
def ansF (st : TStore) (r : TReq) (dat : List Int) : TStore × TResp :=
  if r.1 = 1 then ((makeF st r.2.1 r.2.2).1, if (makeF st r.2.1 r.2.2).2 = 0 then (201, 0) else codeResp st (makeF st r.2.1 r.2.2).2 r.2.1)
  else if r.1 = 3 then ((putF st r.2.1 r.2.2 dat).1, if (putF st r.2.1 r.2.2 dat).2 = 0 then (204, r.2.2 + (dat.length : Int)) else codeResp st (putF st r.2.1 r.2.2 dat).2 r.2.1)
  else if r.1 = 4 then ((doneF st r.2.1 r.2.2).1, if (doneF st r.2.1 r.2.2).2 = 0 then (200, -1) else codeResp st (doneF st r.2.1 r.2.2).2 r.2.1)
  else if r.1 = 6 then ((dropF st r.2.1).1, if (dropF st r.2.1).2 = 0 then (204, -1) else codeResp st (dropF st r.2.1).2 r.2.1)
  else (st, seeF st r)
theorem makeF_same {st : TStore} {id : ByteArray} {n : Int} (h : ¬ (makeF st id n).2 = 0) : (makeF st id n).1 = st := by
  unfold makeF at h ⊢
  split
  · rename_i h1
    rw [if_pos h1] at h
    split
    · rfl
    · rename_i h2
      rw [if_neg h2] at h
      split
      · rfl
      · rename_i h3
        rw [if_neg h3] at h
        exact absurd rfl h
  · rfl
theorem putF_same {st : TStore} {id : ByteArray} {n : Int} {d : List Int} (h : ¬ (putF st id n d).2 = 0) : (putF st id n d).1 = st := by
  unfold putF at h ⊢
  split
  · rename_i h1
    rw [if_pos h1] at h
    split
    · rename_i h2
      rw [if_pos h2] at h
      split
      · rfl
      · rename_i h3
        rw [if_neg h3] at h
        split
        · rfl
        · rename_i h4
          rw [if_neg h4] at h
          exact absurd rfl h
    · rfl
  · rfl
theorem doneF_same {st : TStore} {id : ByteArray} {n : Int} (h : ¬ (doneF st id n).2 = 0) : (doneF st id n).1 = st := by
  unfold doneF at h ⊢
  split
  · rename_i h1
    rw [if_pos h1] at h
    split
    · rename_i h2
      rw [if_pos h2] at h
      split
      · rfl
      · rename_i h3
        rw [if_neg h3] at h
        split
        · rfl
        · rename_i h4
          rw [if_neg h4] at h
          split
          · rfl
          · rename_i h5
            rw [if_neg h5] at h
            split
            · rfl
            · rename_i h6
              rw [if_neg h6] at h
              exact absurd rfl h
    · rfl
  · rfl
theorem dropF_same {st : TStore} {id : ByteArray} (h : ¬ (dropF st id).2 = 0) : (dropF st id).1 = st := by
  unfold dropF at h ⊢
  split
  · rename_i h1
    rw [if_pos h1] at h
    split
    · rename_i h2
      rw [if_pos h2] at h
      split
      · rfl
      · rename_i h4
        rw [if_neg h4] at h
        exact absurd rfl h
    · rfl
  · rfl
theorem putF_len {st : TStore} {id : ByteArray} {off : Int} {dat : List Int} (h : Rt st) (hb : Byt dat) (h0 : (putF st id off dat).2 = 0) : lenOf (putF st id off dat).1 id = off + (dat.length : Int) ∧ off = lenOf st id ∧ 0 ≤ off := by
  unfold putF at h0 ⊢
  split at h0
  · rename_i h1
    rw [if_pos h1]
    split at h0
    · rename_i h3
      rw [if_pos h3]
      split at h0
      · simp at h0
      · rename_i h4
        rw [if_neg h4]
        split at h0
        · simp at h0
        · rename_i h5
          rw [if_neg h5]
          have hc := putC_of h hb h1.1 h1.2 h3 h4 h5
          have hI := putI_at hc _ (Nat.le_refl _)
          have hn : dat.length ≤ nPc dat * 24 := by
            have : ¬ nPc dat < nPc dat := Nat.lt_irrefl _
            rw [nPc_lt] at this
            omega
          have hat := hc.at'
          refine ⟨?_, ?_, by omega⟩
          · unfold lenOf
            rw [if_pos hI.has, hI.val]
            simp only [List.length_append, List.take_of_length_le hn]
            omega
          · unfold lenOf
            rw [if_pos h3]
            exact hat
    · simp at h0
  · simp at h0
theorem s_upAt_eq (st : TStore) (id : ByteArray) (hU : Ups st.2.2.2) : P_s_UpAt st id = some (if upHas st.2.2.2 id = true then rd kUp st.2.2.2 (upIns st.2.2.2 id : Int) else (⟨#[]⟩, (0, ([], false))), upHas st.2.2.2 id, ()) := by
  simp only [P_s_UpAt, B_s_UpAt]
  rw [s_at_eq st.2.2.2 id hU]
  cases hh : upHas st.2.2.2 id with
  | false =>
    simp only [Bool.false_eq_true, if_false, bO]
    rw [dec_true (show (-1 : Int) < 0 by omega)]
    rfl
  | true =>
    obtain ⟨hlt, hid2⟩ := upHas_iff.1 hh
    have hdl := ups_dat hU _ (List.getElem_mem hlt)
    rw [← rd_nat (k := kUp) hlt] at hdl
    simp only [if_true, bO]
    rw [dec_false (show ¬ (upIns st.2.2.2 id : Int) < 0 by omega), dec_true (show (0 : Int) ≤ (upIns st.2.2.2 id : Int) by omega), dec_true (show (upIns st.2.2.2 id : Int) < (st.2.2.2.length : Int) by omega), dec_true (by simp; omega), dec_true (by simp; omega)]
    simp only [cond_true, cond_false, List.nil_append]
theorem s_bad_eq (st : TStore) (id : ByteArray) (c : Int) (hU : Ups st.2.2.2) : P_s_l15Bad st id c = some (codeResp st c id, ()) := by
  have hlo : (List.length (if upHas st.2.2.2 id = true then rd kUp st.2.2.2 (upIns st.2.2.2 id : Int) else ((⟨#[]⟩, (0, ([], false))) : TUp)).2.2.1 : Int) = lenOf st id := by
    unfold lenOf; split <;> rfl
  simp only [P_s_l15Bad, B_s_l15Bad, s_upAt_eq st id hU, codeResp, bO, hlo]
  by_cases h2 : c = 2
  · rw [dec_true h2, if_pos h2]; rfl
  rw [dec_false h2, if_neg h2]
  by_cases h3 : c = 3
  · rw [dec_true h3, if_pos (.inl h3)]; rfl
  rw [dec_false h3]
  by_cases h4 : c = 4
  · rw [dec_true h4, if_pos (.inr h4)]; rfl
  rw [dec_false h4, if_neg (fun h => h.elim h3 h4)]
  simp only [cond_false, bO]
  by_cases h5 : c = 5
  · rw [dec_true h5, if_pos h5]; rfl
  rw [dec_false h5, if_neg h5]
  by_cases h6 : c = 6
  · rw [dec_true h6, if_pos h6]; rfl
  rw [dec_false h6, if_neg h6]
  rfl
theorem s_looks_eq (st : TStore) (r : TReq) (hU : Ups st.2.2.2) : P_s_l15Looks st r = some (seeF st r, ()) := by
  simp only [P_s_l15Looks, B_s_l15Looks, s_upAt_eq st r.2.1 hU, seeF, lenOf, bO]
  cases hh : upHas st.2.2.2 r.2.1 with
  | false => rfl
  | true =>
    simp only [if_true, Bool.not_true, cond_false]
    by_cases h5 : r.1 = 5
    · rw [dec_true h5]
      cases hd : (rd kUp st.2.2.2 (upIns st.2.2.2 r.2.1 : Int)).2.2.2 with
      | true => rw [if_neg (fun h => by cases h.2)]; rfl
      | false => rw [if_pos ⟨h5, rfl⟩]; rfl
    · rw [dec_false h5, if_neg (fun h => h5 h.1)]
      rfl
theorem s_does_eq (st : TStore) (r : TReq) (dat : List Int) (hid : r.2.1.size ≤ maxLen) (h : Rt st) (hS : StoreS st) (hok : P_s_StoreOk st = some (true, ())) (hb : Byt dat) (hd : dat.length ≤ 1048576) (ho : -9223372036854775808 ≤ r.2.2 ∧ r.2.2 ≤ 9223372036854775807) :
    P_s_l15Does_r99_0 st r dat = some ((ansF st r dat).1, (ansF st r dat).2, ()) := by
  have hU := h.up
  simp only [P_s_l15Does_r99_0, B_s_l15Does_r99_0, ansF]
  by_cases h1 : r.1 = 1
  · rw [dec_true h1, if_pos h1, s_makeUp_eq st r.2.1 r.2.2 hid h hS hok]
    simp only [cond_true, bO, bindS]
    by_cases hz : (makeF st r.2.1 r.2.2).2 = 0
    · rw [dec_true hz, if_pos hz]; rfl
    · rw [dec_false hz, if_neg hz, makeF_same hz]
      simp only [Bool.not_false, cond_true, s_bad_eq st r.2.1 _ hU, bO]
  rw [dec_false h1, if_neg h1]
  by_cases h3 : r.1 = 3
  · rw [dec_true h3, if_pos h3, s_putUp_eq st r.2.1 r.2.2 dat hid h hS hok hb hd ho]
    simp only [cond_true, cond_false, bO, bindS]
    by_cases hz : (putF st r.2.1 r.2.2 dat).2 = 0
    · rw [dec_true hz, if_pos hz]
      have hl := putF_len h hb hz
      have hlo : lenOf st r.2.1 ≤ 2000000000 := by
        unfold lenOf
        split
        · rename_i hh
          obtain ⟨hlt, _⟩ := upHas_iff.1 hh
          have hdl := ups_dat hU _ (List.getElem_mem hlt)
          rw [← rd_nat (k := kUp) hlt] at hdl
          omega
        · omega
      rw [w64 (by omega) (by omega)]
      rfl
    · rw [dec_false hz, if_neg hz, putF_same hz]
      simp only [Bool.not_false, cond_true, s_bad_eq st r.2.1 _ hU, bO]
  rw [dec_false h3, if_neg h3]
  by_cases h4 : r.1 = 4
  · rw [dec_true h4, if_pos h4, s_doneUp_eq st r.2.1 r.2.2 hid h hS hok]
    simp only [cond_true, cond_false, bO, bindS]
    by_cases hz : (doneF st r.2.1 r.2.2).2 = 0
    · rw [dec_true hz, if_pos hz]; rfl
    · rw [dec_false hz, if_neg hz, doneF_same hz]
      simp only [Bool.not_false, cond_true, s_bad_eq st r.2.1 _ hU, bO]
  rw [dec_false h4, if_neg h4]
  by_cases h6 : r.1 = 6
  · rw [dec_true h6, if_pos h6, s_dropUp_eq st r.2.1 hid h hS hok]
    simp only [cond_true, cond_false, bO, bindS]
    by_cases hz : (dropF st r.2.1).2 = 0
    · rw [dec_true hz, if_pos hz]; rfl
    · rw [dec_false hz, if_neg hz, dropF_same hz]
      simp only [Bool.not_false, cond_true, s_bad_eq st r.2.1 _ hU, bO]
  rw [dec_false h6, if_neg h6, s_looks_eq st r hU]
  rfl

theorem drawKept_ok (a : List Int) (h : a.length ≤ 1048576) : ∃ ke, P_s_DrawKept_r99_0 a = some (ke, ()) := by
  obtain ⟨c, q, hc⟩ := l1New_ok a h
  simp only [P_s_DrawKept_r99_0, B_s_DrawKept_r99_0, q, bO]
  obtain ⟨z, e, _⟩ := loopO_ind (L_s_DrawKept_r99_0_0 P_s_l1Once) (fun l => (30 - l.1).toNat) (fun l => 0 ≤ l.1 ∧ (List.length l.2.2.2.2.1 : Int) = l.1 ∧ l.1 ≤ 30 ∧ Cur (l.2.1, (l.2.2.1, l.2.2.2.1))) (fun _ => True) (fun l hl => by
    obtain ⟨g0, g1, g2, g3⟩ := hl
    simp only [L_s_DrawKept_r99_0_0]
    by_cases hi : l.1 < 30
    · obtain ⟨b, c', e, hc'⟩ := l1Once_ok _ 2 g3 (by omega)
      rw [dec_true hi, e]
      simp only [cond_true, bO]
      rw [dec_true (by simp; omega), dec_true (by simp; omega), w64 (by omega) (by omega)]
      exact .inl ⟨_, rfl, ⟨by simp only; omega, by simp; omega, by simp only; omega, hc'⟩, by simp only; omega⟩
    · rw [dec_false hi]
      exact .inr ⟨_, rfl, trivial⟩) (0, c.1, c.2.1, c.2.2, [], ()) ⟨by simp, by simp, by simp, hc⟩
  exact ⟨z.1, e⟩

theorem foldOne_want {N : Int} {us us' : List TUp} {r : TRec} (h : foldOne us r = some us') (hr : r.2.2.1 = 1 → r.2.2.2.2.1 ≤ N) (hus : ∀ u ∈ us, (show Int from u.2.1) ≤ N) : ∀ u ∈ us', (show Int from u.2.1) ≤ N := by
  intro u hu
  simp only [foldOne] at h
  have hset : ∀ v : TUp, upHas us r.2.2.2.1 = true → v.2.1 = (rd kUp us (upIns us r.2.2.2.1 : Int)).2.1 → u ∈ us.set (upIns us r.2.2.2.1) v → (show Int from u.2.1) ≤ N := fun v hh hv hu => by
    rcases List.mem_or_eq_of_mem_set hu with hu | rfl
    · exact hus u hu
    · obtain ⟨hlt, _⟩ := upHas_iff.1 hh
      rw [rd_nat (k := kUp) (xs := us) hlt] at hv
      have := hus _ (List.getElem_mem hlt)
      rw [← hv] at this
      exact this
  split at h
  · rename_i h1
    split at h
    · cases h
    · injection h with h; subst h
      rcases List.mem_append.1 hu with hu | hu
      · exact hus u (List.mem_of_mem_take hu)
      · rcases List.mem_cons.1 hu with rfl | hu
        · exact hr h1
        · exact hus u (List.mem_of_mem_drop hu)
  · split at h
    · cases h
    · rename_i hh
      have hh : upHas us r.2.2.2.1 = true := by simpa using hh
      split at h
      · split at h
        · cases h
        · injection h with h; subst h
          refine hset _ hh ?_ hu
          rfl
      · split at h
        · split at h
          · cases h
          · injection h with h; subst h
            refine hset _ hh ?_ hu
            rfl
        · split at h
          · injection h with h; subst h
            rcases List.mem_append.1 hu with hu | hu
            · exact hus u (List.mem_of_mem_take hu)
            · exact hus u (List.mem_of_mem_drop hu)
          · cases h
theorem foldAll_want {N : Int} : ∀ {l : List TRec} {us us' : List TUp}, foldAll us l = some us' → (∀ r ∈ l, r.2.2.1 = 1 → r.2.2.2.2.1 ≤ N) → (∀ u ∈ us, (show Int from u.2.1) ≤ N) → ∀ u ∈ us', (show Int from u.2.1) ≤ N
  | [], us, us', h, _, hus => by
    simp only [foldAll, Option.some.injEq] at h; subst h
    exact hus
  | r :: l, us, us', h, hr, hus => by
    simp only [foldAll] at h
    split at h
    · rename_i us1 e1
      exact foldAll_want h (fun x hx => hr x (List.mem_cons_of_mem _ hx)) (foldOne_want e1 (hr r List.mem_cons_self) hus)
    · cases h
def Wanted (st : TStore) : Prop := ∀ r ∈ scanL st.1.1, r.2.2.1 = 1 → r.2.2.2.2.1 ≤ 1000000
theorem steps_want {id : ByteArray} {st st' : TStore} (hs : Steps id st st') {c : Nat} (h : Dur st c) (hw : Wanted st) : Wanted st' := by
  induction hs with
  | refl => exact hw
  | @step st1 r us h1 hr e1 e2 hlt hid hn hf ih =>
    have hg := (steps_dur h1 h).1.g
    unfold Wanted
    rw [(good_wrote hg hr e1 e2 hlt hf).2]
    intro x hx h1
    rcases List.mem_append.1 hx with hx | hx
    · exact ih x hx h1
    · rw [List.mem_singleton] at hx; subst hx; exact hn h1
theorem ansF_steps {st : TStore} {r : TReq} {dat : List Int} (h : Rt st) (hb : Byt dat) : Steps r.2.1 st (ansF st r dat).1 := by
  unfold ansF
  split
  · exact makeF_steps h
  · split
    · exact putF_steps h hb
    · split
      · exact doneF_steps h
      · split
        · exact dropF_steps h
        · exact Steps.refl
theorem lenOf_bnd {st : TStore} (h : Rt st) (id : ByteArray) : 0 ≤ lenOf st id ∧ lenOf st id ≤ 1000000000 := by
  unfold lenOf
  split
  · rename_i hh
    obtain ⟨hlt, _⟩ := upHas_iff.1 hh
    have hg := h.up.2.2 _ (List.getElem_mem hlt)
    rw [rd_nat (k := kUp) (xs := st.2.2.2) hlt]
    have h1 := hg.1
    have h2 := hg.2.1
    omega
  · omega
theorem ansF_resp {st : TStore} {r : TReq} {dat : List Int} (h : Rt st) (hb : Byt dat) {c : Nat} (hd : Dur st c) : respOkB (ansF st r dat).2 = true := by
  have key : ∀ a b : Int, (100 ≤ a ∧ a ≤ 599) → (-1 ≤ b ∧ b ≤ 1000000000) → respOkB (a, b) = true := fun a b h1 h2 => by
    simp only [respOkB]
    rw [dec_true h1, dec_true h2]
    rfl
  have hl := lenOf_bnd h
  have hcode : ∀ code id, respOkB (codeResp st code id) = true := fun code id => by
    have := hl id
    unfold codeResp
    repeat' split
    all_goals exact key _ _ (by omega) (by omega)
  unfold ansF
  split
  · simp only
    split
    · exact key _ _ (by omega) (by omega)
    · exact hcode _ _
  · split
    · simp only
      split
      · rename_i h0
        obtain ⟨q1, q2, q3⟩ := putF_len h hb h0
        have hR := (good_all (steps_dur (putF_steps (off := r.2.2) (id := r.2.1) h hb) hd).1.g).1
        have := lenOf_bnd hR r.2.1
        exact key _ _ (by omega) (by omega)
      · exact hcode _ _
    · split
      · simp only
        split
        · exact key _ _ (by omega) (by omega)
        · exact hcode _ _
      · split
        · simp only
          split
          · exact key _ _ (by omega) (by omega)
          · exact hcode _ _
        · simp only [seeF]
          have := hl r.2.1
          repeat' split
          all_goals exact key _ _ (by omega) (by omega)
/-- A drawn server. -/
structure SvI (k : Nat) (sv : TServer) : Prop where
  dur : ∃ c, Dur sv.1 c
  ep : sv.1.2.1 ≤ (k : Int)
  wn : Wanted sv.1
  hl : sv.2.length ≤ 200
  hr : ∀ h ∈ sv.2, respOkB h.2 = true
theorem svi_good {k : Nat} {sv : TServer} (h : SvI k sv) : Rt sv.1 ∧ ServS sv ∧ P_s_StoreOk sv.1 = some (true, ()) := by
  obtain ⟨c, hd⟩ := h.dur
  obtain ⟨a, b, d, _⟩ := good_all hd.g
  have := h.hl
  exact ⟨a, ⟨b, by show sv.2.length ≤ _; omega⟩, d⟩
theorem svi_want {k : Nat} {sv : TServer} (h : SvI k sv) : ∀ u ∈ sv.1.2.2.2, (show Int from u.2.1) ≤ 1000000 := by
  obtain ⟨c, hd⟩ := h.dur
  exact foldAll_want hd.g.up h.wn (fun u hu => by cases hu)
theorem svi_mono {k k' : Nat} {sv : TServer} (h : SvI k sv) (hk : k ≤ k') : SvI k' sv := ⟨h.dur, by have := h.ep; omega, h.wn, h.hl, h.hr⟩
theorem svi_ok {k : Nat} {sv : TServer} (h : SvI k sv) : P_s_ServerOk sv = some (true, ()) ∧ P_i_ServerOk sv = some (true, ()) := by
  obtain ⟨hR, hS, hok⟩ := svi_good h
  have hl := h.hl
  obtain ⟨b, e1, e2, _⟩ := serverOk_eq sv hR.dk.1 hS.2
  have hs : P_s_ServerOk sv = some (true, ()) := by
    simp only [P_s_ServerOk, B_s_ServerOk]
    have key := loopO_count (L_s_ServerOk_0 P_s_RespOk sv) (fun j => ((j : Int), ())) sv.2.length (.inl ()) (fun i hi => ?_) ?_
    · have key' : loopO (L_s_ServerOk_0 P_s_RespOk sv) (0, ()) = _ := key
      rw [key']
      simp only [bindS]
      rw [dec_true (by omega), hok]
      rfl
    · simp only [L_s_ServerOk_0]
      rw [dec_true (show (i : Int) < (sv.2.length : Int) by omega), dec_true (show (0 : Int) ≤ (i : Int) by omega), rd_nat (k := kHeld) (xs := sv.2) hi, s_RespOk_eq, h.hr _ (List.getElem_mem hi), w64 (by omega) (by omega)]
      rfl
    · simp only [L_s_ServerOk_0]
      rw [dec_false (by omega)]
      rfl
  rw [hs] at e1
  injection e1 with e1; injection e1 with e1
  subst e1
  exact ⟨hs, e2⟩
theorem svi_synced {k : Nat} {sv : TServer} (h : SvI k sv) : SvI k (((sv.1.1.1, sv.1.1.1), sv.1.2), []) := by
  obtain ⟨c, hd⟩ := h.dur
  exact ⟨⟨_, synced_dur hd.g⟩, h.ep, h.wn, Nat.zero_le _, fun x hx => by cases hx⟩
theorem s_sync_sv {k : Nat} {sv : TServer} (h : SvI k sv) : P_s_SyncAll sv = some ((((sv.1.1.1, sv.1.1.1), sv.1.2), []), sv.2, ()) := by
  obtain ⟨hR, hS, hok⟩ := svi_good h
  have hl := h.hl
  simp only [P_s_SyncAll, B_s_SyncAll, s_copyServer_eq sv hS, (svi_ok h).1, bO, Bool.not_true, cond_false, P_s_SyncStore, B_s_SyncStore, s_copyStore_eq sv.1 hS.1, hok, s_flush_eq sv.1.1 hR.dk, cond_true]
  rw [dec_true (by simp; omega), dec_true (by simp; omega)]
  rfl
theorem svi_crash {k : Nat} {sv : TServer} (h : SvI k sv) (hk : k ≤ 9999) (ke : List Bool) : ∃ us, GoodS (openedF (mixL sv.1.1.1 sv.1.1.2 ke) us) ∧ diskB sv.1.1 = true ∧ SvI (k + 1) (openedF (mixL sv.1.1.1 sv.1.1.2 ke) us, []) := by
  obtain ⟨c, hd⟩ := h.dur
  have hep := h.ep
  obtain ⟨m, us, g1, g2, g3, g4, g5, g6, g7⟩ := dur_crash hd ke (by omega)
  refine ⟨us, g7, hd.g.dk, ⟨_, opened_dur g7⟩, ?_, ?_, Nat.zero_le _, fun x hx => by cases hx⟩
  · show topL (mixL sv.1.1.1 sv.1.1.2 ke) + 1 ≤ ((k + 1 : Nat) : Int)
    omega
  · intro r hr h1
    have hr' : r ∈ scanL (mixL sv.1.1.1 sv.1.1.2 ke) := hr
    rw [g3] at hr'
    exact h.wn r (List.mem_of_mem_take hr') h1
theorem s_crash_sv {k : Nat} {sv : TServer} (h : SvI k sv) (hk : k ≤ 9999) (ke : List Bool) : ∃ y, P_s_CrashServer_r99_0 sv ke = some (y, true, ()) ∧ SvI (k + 1) y := by
  obtain ⟨us, g1, g2, g3⟩ := svi_crash h hk ke
  refine ⟨_, ?_, g3⟩
  have hop : P_s_OpenStore_r99_0 (fallF sv.1.1 ke) = _ := s_open_eq g1
  simp only [P_s_CrashServer_r99_0, B_s_CrashServer_r99_0, (svi_ok h).1, s_fall_eq sv.1.1 ke g2, hop, bO, Bool.not_true, cond_false]
theorem s_serve_sv {k : Nat} {sv : TServer} (h : SvI k sv) (who : Int) (r : TReq) (dat : List Int) (hid : r.2.1.size ≤ maxLen) (hb : Byt dat) (hd : dat.length ≤ 1048576) (ho : -9223372036854775808 ≤ r.2.2 ∧ r.2.2 ≤ 9223372036854775807) :
    ∃ y b, P_s_Serve_r99_0 sv who r dat = some (y, b, ()) ∧ SvI k y := by
  obtain ⟨hR, hS, hok⟩ := svi_good h
  have hl := h.hl
  obtain ⟨c, hdu⟩ := h.dur
  simp only [P_s_Serve_r99_0, B_s_Serve_r99_0, s_copyServer_eq sv hS, (svi_ok h).1, s_ReqOk_eq r hid, bO, Bool.not_true, cond_false]
  cases hq : reqOkB r with
  | false => exact ⟨sv, false, rfl, h⟩
  | true =>
    by_cases h2 : (sv.2.length : Int) = 200
    · rw [dec_true h2]; exact ⟨sv, false, rfl, h⟩
    · rw [dec_false h2]
      simp only [Bool.not_true, cond_false, bindS, bO, s_does_eq sv.1 r dat hid hR hS.1 hok hb hd ho]
      rw [dec_true (by simp; omega), dec_true (by simp; omega)]
      have hst := ansF_steps (r := r) hR hb
      obtain ⟨k1, k2, _⟩ := steps_dur hst hdu
      refine ⟨_, true, rfl, ⟨c, k1⟩, by show (ansF sv.1 r dat).1.2.1 ≤ _; rw [k2]; exact h.ep, steps_want hst hdu h.wn, by simp; omega, fun x hx => ?_⟩
      rcases List.mem_append.1 hx with hx | hx
      · exact h.hr x hx
      · rw [List.mem_singleton] at hx; subst hx; exact ansF_resp hR hb hdu
theorem l11Req_ok (c : TL1Cur) (hc : Cur c) : ∃ r c', P_s_l11Req c = some (r, c', ()) ∧ Cur c' ∧ -1 ≤ r.2.2 ∧ r.2.2 ≤ 4294967295 := by
  obtain ⟨k, c1, q1, h1, k0, k1⟩ := l1Below_ok c 6 hc (by omega)
  obtain ⟨s, c2, q2, h2, _⟩ := l1Str_ok c1 [(⟨#[97]⟩ : ByteArray), (⟨#[98]⟩ : ByteArray), (⟨#[117, 112, 49]⟩ : ByteArray), (⟨#[101, 105, 103, 104, 116, 108, 101, 116]⟩ : ByteArray)] h1 (by simp)
  simp only [P_s_l11Req, B_s_l11Req, q1, q2, bO]
  obtain ⟨m, qm⟩ : ∃ m, P_s_l11Most (IntKind.i64.wrap (1 + k)) = some (m, ()) := by
    simp only [P_s_l11Most, B_s_l11Most]
    cases decide (IntKind.i64.wrap (1 + k) = 1) <;> cases decide (IntKind.i64.wrap (1 + k) = 3) <;> cases decide (IntKind.i64.wrap (1 + k) = 4) <;> exact ⟨_, rfl⟩
  rw [qm]
  simp only [bO]
  cases decide (m ≥ 0) with
  | false => exact ⟨_, _, rfl, h2, by simp only; omega, by simp only; omega⟩
  | true =>
    obtain ⟨n, c3, q3, h3, hn⟩ := l1Int_ok c2 [0, 5, 24, 100, 1000000000] h2 (by simp)
    have hn2 : 0 ≤ n ∧ n ≤ 1000000000 := by
      simp only [List.mem_cons, List.not_mem_nil, or_false] at hn
      omega
    simp only [cond_true, q3, bO]
    cases decide (IntKind.i64.wrap (1 + k) = 4) with
    | false => exact ⟨_, _, rfl, h3, by simp only; omega, by simp only; omega⟩
    | true =>
      obtain ⟨b, c4, q4, h4⟩ := l1Once_ok c3 2 h3 (by omega)
      simp only [cond_true, q4, bO]
      cases b
      · exact ⟨_, _, rfl, h4, by simp only; omega, by simp only; omega⟩
      · exact ⟨_, _, rfl, h4, by simp only; omega, by simp only; omega⟩
theorem l15Req_ok {k : Nat} {sv : TServer} (h : SvI k sv) (c : TL1Cur) (hc : Cur c) : ∃ r dat c', P_s_l15Req_r0_0 c sv.1 = some (r, dat, c', ()) ∧ Cur c' ∧ r.2.1.size ≤ maxLen ∧ Byt dat ∧ dat.length ≤ 1048576 ∧ (-9223372036854775808 ≤ r.2.2 ∧ r.2.2 ≤ 9223372036854775807) := by
  obtain ⟨hR, hS, hok⟩ := svi_good h
  obtain ⟨r, c1, q1, h1, r0, r1⟩ := l11Req_ok c hc
  obtain ⟨s, c2, q2, h2, hs⟩ := l1Str_ok c1 [(⟨#[97]⟩ : ByteArray), (⟨#[98]⟩ : ByteArray), (⟨#[99]⟩ : ByteArray)] h1 (by simp)
  have hsz : s.size ≤ maxLen := by
    simp only [List.mem_cons, List.not_mem_nil, or_false] at hs
    rcases hs with rfl | rfl | rfl <;> decide
  have qu := s_upAt_eq sv.1 s hR.up
  obtain ⟨u, bu, qu', u1, u2, u3⟩ : ∃ u b, P_s_UpAt sv.1 s = some (u, b, ()) ∧ (List.length u.2.2.1 : Int) ≤ u.2.1 ∧ u.2.1 ≤ 1000000 ∧ Byt u.2.2.1 := by
    refine ⟨_, _, qu, ?_⟩
    split
    · rename_i hh
      obtain ⟨hlt, _⟩ := upHas_iff.1 hh
      have hg := hR.up.2.2 _ (List.getElem_mem hlt)
      have hw := svi_want h _ (List.getElem_mem hlt)
      rw [rd_nat (k := kUp) (xs := sv.1.2.2.2) hlt]
      exact ⟨hg.1, hw, hg.2.2.2⟩
    · exact ⟨by simp, by simp, byt_nil⟩
  simp only [P_s_l15Req_r0_0, B_s_l15Req_r0_0, q1, q2, qu', bO]
  cases decide (r.1 = 1) with
  | true =>
    obtain ⟨n, c3, q3, h3, hn⟩ := l1Int_ok c2 [0, 3, 30, 1000000, 1000001] h2 (by simp)
    have hn2 : 0 ≤ n ∧ n ≤ 1000001 := by
      simp only [List.mem_cons, List.not_mem_nil, or_false] at hn
      omega
    simp only [cond_true, q3, bO]
    exact ⟨_, _, _, rfl, h3, hsz, byt_nil, Nat.zero_le _, by simp only; omega⟩
  | false =>
    simp only [cond_false]
    cases decide (r.1 = 3) with
    | true =>
      obtain ⟨o, c3, q3, h3, ho⟩ := l1Int_ok c2 [(List.length u.2.2.1 : Int), (List.length u.2.2.1 : Int), (List.length u.2.2.1 : Int), 0, 7] h2 (by simp)
      have ho2 : 0 ≤ o ∧ o ≤ 1000007 := by
        simp only [List.mem_cons, List.not_mem_nil, or_false] at ho
        omega
      obtain ⟨n, c4, q4, h4, hn⟩ := l1Int_ok c3 [1, 3, 24, 30, 0] h3 (by simp)
      have hn2 : 0 ≤ n ∧ n ≤ 30 := by
        simp only [List.mem_cons, List.not_mem_nil, or_false] at hn
        omega
      obtain ⟨dat, c5, q5, h5, hl5, hb5⟩ := l1Bytes_ok c4 n h4 (by omega)
      simp only [cond_true, q3, q4, q5, bO]
      by_cases hg : u.2.1 > (List.length u.2.2.1 : Int)
      · obtain ⟨b, c6, q6, h6⟩ := l1Once_ok c5 2 h5 (by omega)
        rw [dec_true hg]
        simp only [cond_true, q6, bO]
        cases b with
        | true =>
          obtain ⟨d2, c7, q7, h7, hl7, hb7⟩ := l1Bytes_ok c6 (IntKind.i64.wrap (u.2.1 - (List.length u.2.2.1 : Int))) h6 (by rw [w64 (by omega) (by omega)]; omega)
          rw [w64 (by omega) (by omega)] at hl7
          have q7' : P_s_l1Bytes_r0_0 (c6.1, (c6.2.1, c6.2.2)) (IntKind.i64.wrap (u.2.1 - (List.length u.2.2.1 : Int))) = _ := q7
          simp only [cond_true, q7', bO]
          exact ⟨_, _, _, rfl, h7, hsz, hb7, by omega, by simp only; omega⟩
        | false => exact ⟨_, _, _, rfl, h6, hsz, hb5, by omega, by simp only; omega⟩
      · rw [dec_false hg]
        exact ⟨_, _, _, rfl, h5, hsz, hb5, by omega, by simp only; omega⟩
    | false =>
      simp only [cond_false]
      cases decide (r.1 = 4) with
      | true =>
        have hx : crcL u.2.2.1 ^^^ 4294967295 < 2 ^ 32 := Nat.xor_lt_two_pow (crcL_lt u3) (by omega)
        simp only [cond_true]
        rw [s_Crc_eq _ u3 (by simp only [maxLen]; omega)]
        simp only [bO]
        obtain ⟨n, c3, q3, h3, hn⟩ := l1Int_ok c2 [((crcL u.2.2.1 ^^^ 4294967295 : Nat) : Int), ((crcL u.2.2.1 ^^^ 4294967295 : Nat) : Int), 7] h2 (by simp)
        have hn2 : 0 ≤ n ∧ n ≤ 4294967296 := by
          simp only [List.mem_cons, List.not_mem_nil, or_false] at hn
          omega
        simp only [q3, bO]
        exact ⟨_, _, _, rfl, h3, hsz, byt_nil, Nat.zero_le _, by simp only; omega⟩
      | false => exact ⟨_, _, _, rfl, h2, hsz, byt_nil, Nat.zero_le _, by simp only; omega⟩
theorem l15Draw_ok (c : TL1Cur) (n : Int) (hc : Cur c) (hn : 0 < n ∧ n ≤ 1000) : ∃ y c', P_s_l15Draw_r0_0_r99_0 c n = some (y, c', ()) ∧ SvI 1000 y ∧ Cur c' := by
  obtain ⟨m, c1, q1, h1, hm⟩ := l1Int_ok c [30, 30, 6] hc (by simp)
  have hm2 : m ≤ 200 := by
    simp only [List.mem_cons, List.not_mem_nil, or_false] at hm
    omega
  obtain ⟨k, c2, q2, h2, k0, k1⟩ := l1Below_ok c1 n h1 (by omega)
  have h0 : SvI 0 (newServer m) := by
    obtain ⟨⟨d, hd⟩, hep, _⟩ := newDisk_drawn m hm2
    have hsc : scanL (newDisk m).1 = [] := by
      have h1 : (0 : Int) = ((scanL (newDisk m).1).length : Int) := by
        rcases hd.g with ⟨_, _, _, h4, _⟩
        exact h4
      exact List.eq_nil_of_length_eq_zero (by omega)
    exact ⟨⟨d, hd⟩, hep, fun r hr => by (rw [show scanL (newServer m).1.1.1 = [] from hsc] at hr; cases hr), Nat.zero_le _, fun x hx => by cases hx⟩
  simp only [P_s_l15Draw_r0_0_r99_0, B_s_l15Draw_r0_0_r99_0, s_ServerNew_eq, q1, q2, bO]
  obtain ⟨z, e, hz⟩ := loopO_ind (L_s_l15Draw_r0_0_r99_0_0 P_s_CrashServer_r99_0 P_s_Serve_r99_0 P_s_SyncAll P_s_l12Kept_r0_0 P_s_l15Req_r0_0 P_s_l1Below) (fun l => l.1.toNat)
    (fun l => ∃ j : Nat, l.1 ≤ 1000 - (j : Int) ∧ j ≤ 1000 ∧ SvI j (((l.2.1, l.2.2.1), (l.2.2.2.1, (l.2.2.2.2.1, l.2.2.2.2.2.1))), l.2.2.2.2.2.2.1) ∧ Cur (l.2.2.2.2.2.2.2.1, (l.2.2.2.2.2.2.2.2.1, l.2.2.2.2.2.2.2.2.2.1))) (fun z => SvI 1000 z.1 ∧ Cur z.2.1) (fun l hl => by
      obtain ⟨j, g0, gj, g1, g2⟩ := hl
      simp only [L_s_l15Draw_r0_0_r99_0_0]
      by_cases hi : l.1 > 0
      · obtain ⟨b, c3, q3, h3, b0, b1⟩ := l1Below_ok _ 6 g2 (by omega)
        rw [dec_true hi, q3]
        simp only [cond_true, bO]
        rw [w64 (by omega) (by omega)]
        cases decide (b = 0) with
        | true =>
          have qs := s_sync_sv g1
          simp only [cond_true, qs, bO]
          exact .inl ⟨_, rfl, ⟨j + 1, by simp only; omega, by omega, svi_mono (svi_synced g1) (by omega), h3⟩, by simp only; omega⟩
        | false =>
          simp only [cond_false]
          cases decide (b = 1) with
          | true =>
            obtain ⟨ke, c4, q4, h4⟩ := l12Kept_ok c3 h3
            obtain ⟨y, q5, hy⟩ := s_crash_sv g1 (by omega) ke
            simp only [cond_true, q4, q5, bO]
            exact .inl ⟨_, rfl, ⟨j + 1, by simp only; omega, by omega, hy, h4⟩, by simp only; omega⟩
          | false =>
            obtain ⟨r, dat, c4, q4, h4, a1, a2, a3, a4⟩ := l15Req_ok g1 c3 h3
            obtain ⟨who, c5, q5, h5, _⟩ := l1Below_ok c4 3 h4 (by omega)
            obtain ⟨y, b', q6, hy⟩ := s_serve_sv g1 who r dat a1 a2 a3 a4
            have q4' : P_s_l15Req_r0_0 c3 ((l.2.1, l.2.2.1), (l.2.2.2.1, (l.2.2.2.2.1, l.2.2.2.2.2.1))) = _ := q4
            simp only [cond_false, q4', q5, q6, bO]
            exact .inl ⟨_, rfl, ⟨j + 1, by simp only; omega, by omega, svi_mono hy (by omega), h5⟩, by simp only; omega⟩
      · rw [dec_false hi]
        exact .inr ⟨_, rfl, svi_mono g1 gj, g2⟩) (k, (newServer m).1.1.1, (newServer m).1.1.2, (newServer m).1.2.1, (newServer m).1.2.2.1, (newServer m).1.2.2.2, (newServer m).2, c2.1, c2.2.1, c2.2.2, ()) ⟨0, by simp only; omega, by omega, h0, h2⟩
  exact ⟨z.1, z.2.1, e, hz⟩

theorem eqI_refl : ∀ a : List Int, eqI a a = true
  | [] => rfl
  | x :: a => by simp [eqI, eqI_refl a]
theorem sameHeld_refl (l : List THeld) (h : l.length ≤ 1048576) : P_w_sameHeld l l = some (true, ()) := by
  simp only [P_w_sameHeld, B_w_sameHeld, decide_true, Bool.not_true, cond_false]
  refine loopO_count (L_w_sameHeld_0 l l) (fun i => ((i : Int), ())) l.length (true, ()) (fun i hi => ?_) ?_
  · simp only [L_w_sameHeld_0]
    rw [dec_true (show (i : Int) < (l.length : Int) by omega), dec_true (show (0 : Int) ≤ (i : Int) by omega), eqI_refl, w64 (by omega) (by omega)]
    rfl
  · simp only [L_w_sameHeld_0]
    rw [dec_false (by omega)]
    rfl
theorem drawServer_ok (a : List Int) (h : a.length ≤ 1048576) : ∃ w, P_s_DrawServer_r99_0 a = some (w, ()) ∧ SvI 1000 w := by
  obtain ⟨c, q, hc⟩ := l1New_ok a h
  obtain ⟨s, qs, hs⟩ : ∃ s, P_s_l1Size a 30 = some (s, ()) ∧ 0 ≤ s ∧ s ≤ 100 := by
    have ht : (a.length : Int).tdiv 12 = (a.length : Int) / 12 := Int.tdiv_eq_ediv_of_nonneg (by omega)
    simp only [P_s_l1Size, B_s_l1Size, ht]
    rw [w64 (n := (a.length : Int) / 12) (by omega) (by omega), w64 (by omega) (by omega)]
    by_cases h1 : 3 + (a.length : Int) / 12 > 30
    · rw [dec_true h1]; exact ⟨_, rfl, by omega⟩
    · rw [dec_false h1]; exact ⟨_, rfl, by omega⟩
  obtain ⟨w, c', e, hw, _⟩ := l15Draw_ok c (IntKind.i64.wrap (4 + s)) hc (by rw [w64 (by omega) (by omega)]; omega)
  simp only [P_s_DrawServer_r99_0, B_s_DrawServer_r99_0, q, qs, e, bO]
  exact ⟨w, rfl, hw⟩
theorem i_sync_sv {k : Nat} {sv : TServer} (h : SvI k sv) : P_i_SyncAll sv = some ((((sv.1.1.1, sv.1.1.1), sv.1.2), []), sv.2, ()) := by
  obtain ⟨hR, hS, hok⟩ := svi_good h
  simp only [P_i_SyncAll, B_i_SyncAll, i_copyServer_eq sv hS, (svi_ok h).2, bO, Bool.not_true, cond_false, P_i_Server_syncAll, B_i_Server_syncAll, i_flush_eq sv.1.1 hR.dk]
theorem mixL_same {x : List ByteArray} (ke : List Bool) : mixL x x ke = x := by
  refine List.ext_getElem? fun i => ?_
  by_cases hi : i < x.length
  · rw [mixL_get rfl hi]; split <;> rfl
  · rw [List.getElem?_eq_none (by rw [mixL_len]; omega), List.getElem?_eq_none (by omega)]
theorem exactTold (a : List Int) : P_w_FnTold a = some (true, ()) := by
  simp only [P_w_FnTold, B_w_FnTold, P_w_big, B_w_big, bO]
  by_cases ha : (a.length : Int) > 1048576
  · rw [dec_true ha]; rfl
  rw [dec_false ha]
  obtain ⟨sv, q, hv⟩ := drawServer_ok a (by omega)
  obtain ⟨ke, qk⟩ := drawKept_ok a (by omega)
  obtain ⟨hR, hS, hok⟩ := svi_good hv
  have hl := hv.hl
  have h2 := svi_synced hv
  obtain ⟨hR2, hS2, hok2⟩ := svi_good h2
  have hsame := sameHeld_refl sv.2 (by omega)
  obtain ⟨c, hd⟩ := hv.dur
  have hep := hv.ep
  have hd2 := synced_dur hd.g
  obtain ⟨m, us, g1, g2, g3, g4, g5, g6, g7⟩ := dur_crash hd2 ke (by show sv.1.2.1 ≤ 9999; omega)
  have hm : m = (scanL sv.1.1.1).length := by
    have g2' : m ≤ (scanL sv.1.1.1).length := g2
    omega
  have hus : us = sv.1.2.2.2 := by
    have g4' : foldAll [] ((scanL sv.1.1.1).take m) = some us := g4
    rw [hm, List.take_length, hd.g.up] at g4'
    injection g4' with g4'
    exact g4'.symm
  subst hus
  have hmix : mixL sv.1.1.1 sv.1.1.1 ke = sv.1.1.1 := mixL_same ke
  have hfall : fallF (sv.1.1.1, sv.1.1.1) ke = (sv.1.1.1, sv.1.1.1) := by unfold fallF; rw [hmix]
  have g7' : GoodS (openedF sv.1.1.1 sv.1.2.2.2) := by
    have : GoodS (openedF (mixL sv.1.1.1 sv.1.1.1 ke) sv.1.2.2.2) := g7
    rw [hmix] at this; exact this
  have hop := i_open_eq g7'
  have h3 : SvI 1001 (openedF sv.1.1.1 sv.1.2.2.2, []) := by
    refine ⟨⟨_, opened_dur g7'⟩, ?_, hv.wn, Nat.zero_le _, fun x hx => by cases hx⟩
    have h5 : topL (mixL sv.1.1.1 sv.1.1.1 ke) ≤ sv.1.2.1 := g5
    rw [hmix] at h5
    show topL sv.1.1.1 + 1 ≤ ((1001 : Nat) : Int)
    omega
  have hfe : P_i_FallDisk (sv.1.1.1, sv.1.1.1) ke = some ((sv.1.1.1, sv.1.1.1), ()) := by
    rw [i_fall_eq (sv.1.1.1, sv.1.1.1) ke hd2.g.dk, hfall]
  have hcr : P_i_CrashServer ((((sv.1.1.1, sv.1.1.1), sv.1.2), []) : TServer) ke = some ((openedF sv.1.1.1 sv.1.2.2.2, []), true, ()) := by
    simp only [P_i_CrashServer, B_i_CrashServer, i_copyServer_eq _ hS2, (svi_ok h2).2, bO, cond_true, P_i_Server_crash, B_i_Server_crash, hfe, hop]
  have hsu := sameUps_refl sv.1.2.2.2 hR.up
  have hsu' : P_w_sameUps ((openedF sv.1.1.1 sv.1.2.2.2, ([] : List THeld)) : TServer).1.2.2.2 sv.1.2.2.2 = some (true, ()) := hsu
  simp only [cond_false, q, i_sync_sv hv, qk, hcr, hsame, (svi_ok h2).2, (svi_ok h3).2, hsu', bO, cond_true]
  rfl
end Go.Proofs.YtehbegmomfcmhaaGreat.Ev
