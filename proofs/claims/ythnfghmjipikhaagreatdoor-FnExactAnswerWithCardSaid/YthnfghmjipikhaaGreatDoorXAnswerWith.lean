/- What the plain functions of the program and of the reference answer: laws of plain data. -/
import Derived.Test.YthnfghmjipikhaaGreatDoorPu
import Derived.Laws.Strings
import Derived.Lib.Split
import Derived.Lib.Atoi
import Derived.Lib.ItoaNum
set_option linter.unusedVariables false
set_option linter.unusedSimpArgs false
namespace Go.Proofs.YthnfghmjipikhaaGreatDoor.Ev

theorem w64 {n : Int} (h0 : -9223372036854775808 ≤ n) (h1 : n < 9223372036854775808) : IntKind.i64.wrap n = n := by
  simp only [IntKind.wrap, IntKind.bits, IntKind.signed, Bool.true_and]
  simp
  split <;> omega
theorem loopO_ind {α β : Type} (f : α → Option (α ⊕ β)) (μ : α → Nat) (I : α → Prop) (Q : β → Prop)
    (h : ∀ x, I x → (∃ y, f x = some (.inl y) ∧ I y ∧ μ y < μ x) ∨ ∃ z, f x = some (.inr z) ∧ Q z) : ∀ x, I x → ∃ z, loopO f x = some z ∧ Q z := by
  intro x
  generalize hn : μ x = n
  induction n using Nat.strongRecOn generalizing x with
  | ind n ih =>
    intro hx
    rw [loopO_eq]
    rcases h x hx with ⟨y, e, hy, hl⟩ | ⟨z, e, hz⟩
    · rw [e]; exact ih (μ y) (by omega) y rfl hy
    · rw [e]; exact ⟨z, rfl, hz⟩
theorem loopO_val {α β : Type} (f : α → Option (α ⊕ β)) (μ : α → Nat) (I : α → Prop) (z : β)
    (h : ∀ x, I x → (∃ y, f x = some (.inl y) ∧ I y ∧ μ y < μ x) ∨ f x = some (.inr z)) (x : α) (hx : I x) : loopO f x = some z := by
  obtain ⟨z', h1, rfl⟩ := loopO_ind f μ I (· = z) (fun x hx => (h x hx).imp id fun h => ⟨_, h, rfl⟩) x hx
  exact h1
/-- A loop that counts from 0 to n: its state at each count is known. -/
theorem loopO_count {α β : Type} (f : α → Option (α ⊕ β)) (s : Nat → α) (n : Nat) (z : β) (h : ∀ i, i < n → f (s i) = some (.inl (s (i + 1)))) (he : f (s n) = some (.inr z)) : loopO f (s 0) = some z := by
  have key : ∀ k i, i + k = n → loopO f (s i) = some z := by
    intro k
    induction k with
    | zero => intro i hi; rw [loopO_eq, show i = n by omega, he]
    | succ k ih => intro i hi; rw [loopO_eq, h i (by omega)]; exact ih (i + 1) (by omega)
  exact key n 0 (by omega)
/-- A loop that counts up and may leave at a place: what it tells is known for each. -/
theorem loopO_find {α β : Type} (f : α → Option (α ⊕ β)) (s : Nat → α) (n : Nat) (z : Nat → β) (go : Nat → Bool) (h : ∀ i, i < n → f (s i) = if go i then some (.inl (s (i + 1))) else some (.inr (z i))) (he : f (s n) = some (.inr (z n))) :
    ∃ i, i ≤ n ∧ (∀ j, j < i → go j = true) ∧ (i < n → go i = false) ∧ loopO f (s 0) = some (z i) := by
  have key : ∀ k i, i + k = n → (∀ j, j < i → go j = true) → ∃ i', i' ≤ n ∧ (∀ j, j < i' → go j = true) ∧ (i' < n → go i' = false) ∧ loopO f (s i) = some (z i') := by
    intro k
    induction k with
    | zero =>
      intro i hi hg
      obtain rfl : i = n := by omega
      exact ⟨i, Nat.le_refl _, hg, fun h => absurd h (by omega), by rw [loopO_eq, he]⟩
    | succ k ih =>
      intro i hi hg
      cases hgo : go i with
      | true =>
        obtain ⟨i', h1, h2, h3, h4⟩ := ih (i + 1) (by omega) (fun j hj => by
          by_cases h : j < i
          · exact hg j h
          · rw [show j = i by omega]; exact hgo)
        refine ⟨i', h1, h2, h3, ?_⟩
        rw [loopO_eq, h i (by omega), if_pos hgo]
        exact h4
      | false =>
        refine ⟨i, by omega, hg, fun _ => hgo, ?_⟩
        rw [loopO_eq, h i (by omega), hgo]
        rfl
  exact key n 0 (by omega) (fun j hj => by omega)
theorem bt_lo (s : ByteArray) (i : Int) : 0 ≤ bt s i := by unfold bt; omega
theorem bt_hi (s : ByteArray) (i : Int) : bt s i < 256 := by
  have := (s.data.toList.getD i.toNat 0).toNat_lt
  unfold bt; omega
theorem rd_nat {k : K} {xs : List k.T} {i : Nat} (h : i < xs.length) : rd k xs (i : Int) = xs[i] := by
  unfold rd
  rw [Int.toNat_natCast]
  simp [List.getD, h]
theorem rd_int {κ : IntKind} {xs : List Int} {i : Nat} (h : i < xs.length) : rd (.int κ) xs (i : Int) = xs[i] := rd_nat (k := .int κ) h
theorem wf_int {κ : IntKind} {n : Int} (h : Wf (.int κ) n) : κ.min ≤ n ∧ n ≤ κ.max := by
  simp only [Wf, Lit.wf, Bool.and_eq_true, decide_eq_true_eq] at h
  exact h
theorem wf_u8 {n : Int} (h : Wf (.int .u8) n) : 0 ≤ n ∧ n < 256 := by
  have := wf_int h
  simp only [IntKind.min, IntKind.max, IntKind.signed, IntKind.bits] at this
  simp at this
  omega
def Byt (a : List Int) : Prop := ∀ x ∈ a, 0 ≤ x ∧ x < 256
theorem byt_wf {a : List Int} (h : ∀ x ∈ a, Wf (.int .u8) x) : Byt a := fun x hx => wf_u8 (h x hx)
theorem pe {α β : Type} (p : α × β) : (p.1, p.2) = p := rfl
theorem dec_true {p : Prop} [Decidable p] (h : p) : decide p = true := decide_eq_true h
theorem dec_false {p : Prop} [Decidable p] (h : ¬ p) : decide p = false := decide_eq_false h

def Sm (N : Nat) : (k : K) → k.T → Prop
  | .int _, _ => True
  | .bool, _ => True
  | .fnc _, _ => True
  | .str, s => s.size ≤ N
  | .sl _ k, xs => xs.length ≤ N ∧ ∀ x ∈ xs, Sm N k x
  | .rs _ k, xs => xs.length ≤ N ∧ ∀ x ∈ xs, Sm N k x
  | .pa _ _, _ => True
  | .pair a b, x => Sm N a x.1 ∧ Sm N b x.2
theorem sm_wf : ∀ {k : K} {x : k.T}, Wf k x → Sm maxLen k x
  | .int _, _, _ => trivial
  | .bool, _, _ => trivial
  | .fnc _, _, _ => trivial
  | .str, _, h => h
  | .sl _ _, _, h => ⟨h.1, fun x hx => sm_wf (h.2 x hx)⟩
  | .rs _ _, _, h => ⟨h.1, fun x hx => sm_wf (h.2 x hx)⟩
  | .pa _ _, _, _ => trivial
  | .pair _ _, _, h => ⟨sm_wf h.1, sm_wf h.2⟩
theorem Sm.l {N : Nat} {a b : K} {x : (K.pair a b).T} (h : Sm N (.pair a b) x) : Sm N a x.1 := h.1
theorem Sm.r {N : Nat} {a b : K} {x : (K.pair a b).T} (h : Sm N (.pair a b) x) : Sm N b x.2 := h.2
def SzOk (P : Int → Option (Int × Unit)) (S : Prop) : Prop := ∀ l : Int, 0 ≤ l → l ≤ 1048576 → ∃ r, P l = some (r, ()) ∧ r ≤ l ∧ (0 ≤ r → S)
theorem szS_gen {T : Type} (f : T → Int → Option (Int × Unit)) (S : T → Prop) (L : Int × Int × Unit → Option ((Int × Int × Unit) ⊕ (Int × Unit))) (a : List T) (hn : a.length ≤ maxLen) (hf : ∀ x ∈ a, SzOk (f x) (S x))
    (hs : ∀ (i : Nat) (hi : i < a.length) (l : Int), L (l, (i : Int), ()) = bindO (f a[i] l) fun c => bif decide (c.1 < 0) then some (.inr (-1, ())) else some (.inl (c.1, IntKind.i64.wrap ((i : Int) + 1), ())))
    (he : ∀ l, L (l, (a.length : Int), ()) = some (.inr (l, ()))) : SzOk (fun l => loopO L (l, 0, ())) (∀ x ∈ a, S x) := by
  have key : ∀ k i, i + k = a.length → ∀ l : Int, 0 ≤ l → l ≤ 1048576 → ∃ r, loopO L (l, (i : Int), ()) = some (r, ()) ∧ r ≤ l ∧ (0 ≤ r → ∀ j (hj : j < a.length), i ≤ j → S a[j]) := by
    intro k
    induction k with
    | zero =>
      intro i hi l h0 h1
      obtain rfl : i = a.length := by omega
      exact ⟨l, by rw [loopO_eq, he], Int.le_refl _, fun _ j hj hi => by omega⟩
    | succ k ih =>
      intro i hi l h0 h1
      have hlt : i < a.length := by omega
      obtain ⟨r, e, h2, h3⟩ := hf a[i] (List.getElem_mem hlt) l h0 h1
      rw [loopO_eq, hs i hlt, e]
      simp only [bindO]
      by_cases hr : r < 0
      · rw [dec_true hr]
        exact ⟨-1, rfl, by omega, fun h => by omega⟩
      · rw [dec_false hr]
        simp only [cond_false]
        rw [w64 (by omega) (by simp only [maxLen] at hn; omega)]
        obtain ⟨r', e', h4, h5⟩ := ih (i + 1) (by omega) r (by omega) (by omega)
        refine ⟨r', by simpa using e', by omega, fun h j hj hij => ?_⟩
        by_cases hji : j = i
        · subst hji; exact h3 (by omega)
        · exact h5 h j hj (by omega)
  intro l h0 h1
  obtain ⟨r, e, h2, h3⟩ := key a.length 0 (by omega) l h0 h1
  refine ⟨r, by simpa using e, h2, fun h x hx => ?_⟩
  obtain ⟨j, hj, rfl⟩ := List.getElem_of_mem hx
  exact h3 h j hj (by omega)
theorem eqS_gen (L : Int × Unit → Option ((Int × Unit) ⊕ (Bool × Unit))) (n : Nat) (hn : n ≤ maxLen) (hs : ∀ i : Nat, i < n → L ((i : Int), ()) = some (.inl (IntKind.i64.wrap ((i : Int) + 1), ())))
    (he : L ((n : Int), ()) = some (.inr (true, ()))) : loopO L (0, ()) = some (true, ()) := by
  refine loopO_count L (fun i => ((i : Int), ())) n (true, ()) (fun i hi => ?_) he
  rw [hs i hi, w64 (by omega) (by simp only [maxLen] at hn; omega)]
  rfl
theorem toS_gen {T : Type} (L : Int × List T × Unit → Option ((Int × List T × Unit) ⊕ (List T × Unit))) (a : List T) (z : T) (hn : a.length ≤ maxLen)
    (hs : ∀ (i : Nat) (hi : i < a.length) (b : List T), b.length = a.length → L ((i : Int), b, ()) = some (.inl (IntKind.i64.wrap ((i : Int) + 1), b.set i a[i], ())))
    (he : ∀ b, L ((a.length : Int), b, ()) = some (.inr (b, ()))) : loopO L (0, List.replicate a.length z, ()) = some (a, ()) := by
  have key := loopO_count L (fun i => ((i : Int), a.take i ++ List.replicate (a.length - i) z, ())) a.length (a, ()) (fun i hi => ?_) ?_
  · simpa using key
  · have hl : (a.take i ++ List.replicate (a.length - i) z).length = a.length := by simp; omega
    rw [hs i hi _ hl, w64 (by omega) (by simp only [maxLen] at hn; omega)]
    have : (a.take i ++ List.replicate (a.length - i) z).set i a[i] = a.take (i + 1) ++ List.replicate (a.length - (i + 1)) z := by
      rw [List.set_append_right _ _ (by simp; omega)]
      rw [List.take_succ_eq_append_getElem hi, List.append_assoc]
      congr 1
      rw [show (a.take i).length = i by simp; omega, Nat.sub_self, show a.length - i = (a.length - (i + 1)) + 1 by omega, List.replicate_succ]
      rfl
    rw [this]
    rfl
  · rw [he]
    simp

def firstN (go : Nat → Bool) : Nat → Nat → Nat
  | i, 0 => i
  | i, k + 1 => if go i then firstN go (i + 1) k else i
theorem loopO_first {α β : Type} (f : α → Option (α ⊕ β)) (s : Nat → α) (n : Nat) (z : Nat → β) (go : Nat → Bool) (h : ∀ i, i < n → f (s i) = if go i then some (.inl (s (i + 1))) else some (.inr (z i))) (he : f (s n) = some (.inr (z n))) :
    loopO f (s 0) = some (z (firstN go 0 n)) := by
  have key : ∀ k i, i + k = n → loopO f (s i) = some (z (firstN go i k)) := by
    intro k
    induction k with
    | zero =>
      intro i hi
      obtain rfl : i = n := by omega
      rw [loopO_eq, he]
      rfl
    | succ k ih =>
      intro i hi
      rw [loopO_eq, h i (by omega)]
      simp only [firstN]
      cases go i with
      | true => simp only [if_true]; exact ih (i + 1) (by omega)
      | false => rfl
  exact key n 0 (by omega)

theorem eqByteS_refl (a : List Int) (h : a.length ≤ maxLen) : P_w_eqByteS a a = some (true, ()) := by
  simp only [P_w_eqByteS, B_w_eqByteS]
  simp only [decide_true, Bool.not_true, cond_false]
  refine loopO_count (L_w_eqByteS_0 a a) (fun i => ((i : Int), ())) a.length (true, ()) (fun i hi => ?_) ?_
  · have h1 : ((i : Int) < (a.length : Int)) := by omega
    have h2 : (0 : Int) ≤ (i : Int) := by omega
    simp only [L_w_eqByteS_0, dec_true h1, dec_true h2, cond_true, decide_true, Bool.not_true, cond_false]
    rw [w64 (by omega) (by simp only [maxLen] at h; omega)]
    rfl
  · simp [L_w_eqByteS_0]
theorem toByteS_eq (a : List Int) (h : a.length ≤ 281474976710656) : P_w_toByteS a = some (a, ()) := by
  simp only [P_w_toByteS, B_w_toByteS]
  have h1 : (0 : Int) ≤ (a.length : Int) := by omega
  rw [dec_true h1, Int.toNat_natCast, dec_true (show a.length ≤ 9223372036854775807 by omega), dec_true (show 1 * a.length ≤ 281474976710656 by omega)]
  simp only [cond_true]
  have key := loopO_count (L_w_toByteS_0 a) (fun i => ((i : Int), a.take i ++ List.replicate (a.length - i) 0, ())) a.length (a, ()) (fun i hi => ?_) ?_
  · simpa using key
  · have h1 : ((i : Int) < (a.length : Int)) := by omega
    have h2 : (0 : Int) ≤ (i : Int) := by omega
    have hl : (a.take i ++ List.replicate (a.length - i) (0 : Int)).length = a.length := by simp; omega
    simp only [L_w_toByteS_0, hl, dec_true h1, dec_true h2, cond_true]
    rw [w64 (by omega) (by omega), Int.toNat_natCast, rd_nat hi]
    have : (a.take i ++ List.replicate (a.length - i) (0 : Int)).set i a[i] = a.take (i + 1) ++ List.replicate (a.length - (i + 1)) 0 := by
      rw [List.set_append_right _ _ (by simp; omega)]
      rw [List.take_succ_eq_append_getElem hi, List.append_assoc]
      congr 1
      rw [show (a.take i).length = i by simp; omega, Nat.sub_self, show a.length - i = (a.length - (i + 1)) + 1 by omega, List.replicate_succ]
      rfl
    rw [this]
    rfl
  · simp [L_w_toByteS_0]
abbrev Client := ByteArray × List Int × Int × Int
theorem szByteS_eq (a : List Int) (l : Int) (h0 : l ≤ 1048576) (h1 : 0 ≤ l) (h : a.length ≤ maxLen) : P_w_szByteS a l = some (if (a.length : Int) ≤ l then (l - a.length : Int) else -1, ()) := by
  simp only [P_w_szByteS, B_w_szByteS, maxLen] at *
  rw [w64 (by omega) (by omega)]
  split
  · rw [dec_false (by omega)]; rfl
  · rw [dec_true (by omega)]; rfl
def marked (m : Int) (n : Nat) : List Int := (List.range n).map fun j => IntKind.u8.wrap (m + (j : Nat))
theorem markByteS_eq (a : List Int) (m : Int) (h0 : 0 ≤ m) (h : m + a.length < 9223372036854775808) : P_w_markByteS a m = some (m + a.length, marked m a.length, ()) := by
  simp only [P_w_markByteS, B_w_markByteS]
  have key := loopO_count L_w_markByteS_0 (fun i => (m + (i : Int), (i : Int), marked m i ++ a.drop i, ())) a.length (m + a.length, marked m a.length, ()) (fun i hi => ?_) ?_
  · simpa [marked] using key
  · have h1 : ((i : Int) < (a.length : Int)) := by omega
    have h2 : (0 : Int) ≤ (i : Int) := by omega
    have hl : (marked m i ++ a.drop i).length = a.length := by simp [marked]; omega
    simp only [L_w_markByteS_0, hl, dec_true h1, dec_true h2, cond_true]
    rw [w64 (by omega) (by omega), w64 (by omega) (by omega), Int.toNat_natCast]
    have : (marked m i ++ a.drop i).set i (IntKind.u8.wrap (m + (i : Int))) = marked m (i + 1) ++ a.drop (i + 1) := by
      rw [List.set_append_right _ _ (by simp [marked])]
      rw [show (marked m i).length = i by simp [marked], Nat.sub_self, List.drop_eq_getElem_cons hi, List.set_cons_zero]
      simp [marked, List.range_succ]
    rw [this]
    simp only [Int.natCast_add, Int.natCast_one, Int.add_assoc]
  · simp [L_w_markByteS_0, marked]
theorem heldByteS_eq (n : Nat) (m : Int) (h0 : 0 ≤ m) (h : m + n < 9223372036854775808) : P_w_heldByteS (marked m n) m = some (m + n, ()) := by
  simp only [P_w_heldByteS, B_w_heldByteS]
  have hl : (marked m n).length = n := by simp [marked]
  have key := loopO_count (L_w_heldByteS_0 (marked m n)) (fun i => (m + (i : Int), (i : Int), ())) n (m + n, ()) (fun i hi => ?_) ?_
  · simpa [marked] using key
  · have h1 : ((i : Int) < (n : Int)) := by omega
    have h2 : (0 : Int) ≤ (i : Int) := by omega
    simp only [L_w_heldByteS_0, hl, dec_true h1, dec_true h2, cond_true]
    have hr : rd (.int .u8) (marked m n) (i : Int) = IntKind.u8.wrap (m + (i : Int)) := by
      rw [rd_nat (by rw [hl]; exact hi)]
      simp [marked]
    rw [hr, w64 (by omega) (by omega), w64 (by omega) (by omega)]
    simp only [decide_true, Bool.not_true, cond_false, Int.natCast_add, Int.natCast_one, Int.add_assoc]
  · simp [L_w_heldByteS_0, hl]
theorem szByteS_ok (a : List Int) (h : Sm maxLen (.sl 0 (.int .u8)) a) : SzOk (P_w_szByteS a) (Sm 1048576 (.sl 0 (.int .u8)) a) := by
  intro l h0 h1
  refine ⟨_, szByteS_eq a l h1 h0 h.1, ?_, fun hr => ⟨?_, fun x _ => trivial⟩⟩
  · split <;> omega
  · split at hr <;> omega
theorem toByteS_sm (a : List Int) (h : Sm 1048576 (.sl 0 (.int .u8)) a) : P_w_toByteS a = some (a, ()) := toByteS_eq a (by have := h.1; omega)
theorem eqByteS_sm (a : List Int) (h : Sm maxLen (.sl 0 (.int .u8)) a) : P_w_eqByteS a a = some (true, ()) := eqByteS_refl a h.1
theorem szReq_ok (a : TReq) (h : Sm maxLen kReq a) : SzOk (P_w_szReq a) (Sm 1048576 kReq a) := by
  intro l h0 h1
  simp only [P_w_szReq, B_w_szReq]
  have z1 : a.2.1.size ≤ 9223372036854775807 := (Sm.l (Sm.r h))
  rw [w64 (n := l - (a.2.1.size : Int)) (by omega) (by omega)]
  by_cases n1 : l - (a.2.1.size : Int) < 0
  · rw [dec_true n1]; exact ⟨-1, rfl, by omega, fun h => by omega⟩
  rw [dec_false n1]; simp only [cond_false]
  exact ⟨_, rfl, by omega, fun _ => ⟨by simp [Sm], ⟨by show a.2.1.size ≤ 1048576; omega, by simp [Sm]⟩⟩⟩
theorem szGather_ok (a : TGather) (h : Sm maxLen kGather a) : SzOk (P_w_szGather a) (Sm 1048576 kGather a) := by
  intro l h0 h1
  simp only [P_w_szGather, B_w_szGather]
  obtain ⟨r1, e1, u1, v1⟩ := szByteS_ok a.2.2 (Sm.r (Sm.r h)) l (by omega) (by omega)
  rw [e1]; simp only [bindO]
  by_cases n1 : r1 < 0
  · rw [dec_true n1]; exact ⟨-1, rfl, by omega, fun h => by omega⟩
  rw [dec_false n1]; simp only [cond_false]
  exact ⟨_, rfl, by omega, fun _ => ⟨by simp [Sm], ⟨by simp [Sm], v1 (by omega)⟩⟩⟩
theorem szField_ok (a : TField) (h : Sm maxLen kField a) : SzOk (P_w_szField a) (Sm 1048576 kField a) := by
  intro l h0 h1
  simp only [P_w_szField, B_w_szField]
  have z1 : a.1.size ≤ 9223372036854775807 := (Sm.l h)
  rw [w64 (n := l - (a.1.size : Int)) (by omega) (by omega)]
  by_cases n1 : l - (a.1.size : Int) < 0
  · rw [dec_true n1]; exact ⟨-1, rfl, by omega, fun h => by omega⟩
  rw [dec_false n1]; simp only [cond_false]
  have z2 : a.2.size ≤ 9223372036854775807 := (Sm.r h)
  rw [w64 (n := (l - (a.1.size : Int)) - (a.2.size : Int)) (by omega) (by omega)]
  by_cases n2 : (l - (a.1.size : Int)) - (a.2.size : Int) < 0
  · rw [dec_true n2]; exact ⟨-1, rfl, by omega, fun h => by omega⟩
  rw [dec_false n2]; simp only [cond_false]
  exact ⟨_, rfl, by omega, fun _ => ⟨by show a.1.size ≤ 1048576; omega, by show a.2.size ≤ 1048576; omega⟩⟩
theorem szFieldS_ok (a : List TField) (h : Sm maxLen (.sl 161 kField) a) : SzOk (P_w_szFieldS a) (Sm 1048576 (.sl 161 kField) a) := by
  have hl : a.length ≤ 9223372036854775807 := h.1
  intro l h0 h1
  simp only [P_w_szFieldS, B_w_szFieldS]
  rw [w64 (by omega) (by omega)]
  by_cases hn : l - (a.length : Int) < 0
  · rw [dec_true hn]; exact ⟨-1, rfl, by omega, fun h => by omega⟩
  rw [dec_false hn]; simp only [cond_false]
  obtain ⟨r, e, h2, h3⟩ := szS_gen P_w_szField (fun x => Sm 1048576 kField x) (L_w_szFieldS_0 P_w_szField a) a h.1 (fun x hx => szField_ok x (h.2 x hx)) (by
    intro i hi l
    have g1 : ((i : Int) < (a.length : Int)) := by omega
    have g2 : (0 : Int) ≤ (i : Int) := by omega
    simp only [L_w_szFieldS_0, dec_true g1, dec_true g2, cond_true]
    rw [rd_nat (k := kField) (xs := a) hi]
    ) (fun l => by simp [L_w_szFieldS_0]) (l - (a.length : Int)) (by omega) (by omega)
  exact ⟨r, e, by omega, fun h => ⟨by omega, h3 h⟩⟩
theorem szTable_ok (a : TTable) (h : Sm maxLen kTablex a) : SzOk (P_w_szTable a) (Sm 1048576 kTablex a) := by
  intro l h0 h1
  simp only [P_w_szTable, B_w_szTable]
  obtain ⟨r1, e1, u1, v1⟩ := szFieldS_ok a.2 (Sm.r h) l (by omega) (by omega)
  rw [e1]; simp only [bindO]
  by_cases n1 : r1 < 0
  · rw [dec_true n1]; exact ⟨-1, rfl, by omega, fun h => by omega⟩
  rw [dec_false n1]; simp only [cond_false]
  exact ⟨_, rfl, by omega, fun _ => ⟨by simp [Sm], v1 (by omega)⟩⟩
theorem szStr_ok (a : TStr) (h : Sm maxLen kStr a) : SzOk (P_w_szStr a) (Sm 1048576 kStr a) := by
  intro l h0 h1
  simp only [P_w_szStr, B_w_szStr]
  obtain ⟨r1, e1, u1, v1⟩ := szReq_ok a.2.2.1 (Sm.l (Sm.r (Sm.r h))) l (by omega) (by omega)
  rw [e1]; simp only [bindO]
  by_cases n1 : r1 < 0
  · rw [dec_true n1]; exact ⟨-1, rfl, by omega, fun h => by omega⟩
  rw [dec_false n1]; simp only [cond_false]
  obtain ⟨r2, e2, u2, v2⟩ := szByteS_ok a.2.2.2 (Sm.r (Sm.r (Sm.r h))) r1 (by omega) (by omega)
  rw [e2]; simp only [bindO]
  by_cases n2 : r2 < 0
  · rw [dec_true n2]; exact ⟨-1, rfl, by omega, fun h => by omega⟩
  rw [dec_false n2]; simp only [cond_false]
  exact ⟨_, rfl, by omega, fun _ => ⟨by simp [Sm], ⟨by simp [Sm], ⟨v1 (by omega), v2 (by omega)⟩⟩⟩⟩
theorem szStrS_ok (a : List TStr) (h : Sm maxLen (.sl 180 kStr) a) : SzOk (P_w_szStrS a) (Sm 1048576 (.sl 180 kStr) a) := by
  have hl : a.length ≤ 9223372036854775807 := h.1
  intro l h0 h1
  simp only [P_w_szStrS, B_w_szStrS]
  rw [w64 (by omega) (by omega)]
  by_cases hn : l - (a.length : Int) < 0
  · rw [dec_true hn]; exact ⟨-1, rfl, by omega, fun h => by omega⟩
  rw [dec_false hn]; simp only [cond_false]
  obtain ⟨r, e, h2, h3⟩ := szS_gen P_w_szStr (fun x => Sm 1048576 kStr x) (L_w_szStrS_0 P_w_szStr a) a h.1 (fun x hx => szStr_ok x (h.2 x hx)) (by
    intro i hi l
    have g1 : ((i : Int) < (a.length : Int)) := by omega
    have g2 : (0 : Int) ≤ (i : Int) := by omega
    simp only [L_w_szStrS_0, dec_true g1, dec_true g2, cond_true]
    rw [rd_nat (k := kStr) (xs := a) hi]
    ) (fun l => by simp [L_w_szStrS_0]) (l - (a.length : Int)) (by omega) (by omega)
  exact ⟨r, e, by omega, fun h => ⟨by omega, h3 h⟩⟩
theorem szConn_ok (a : TConn) (h : Sm maxLen kConnx a) : SzOk (P_w_szConn a) (Sm 1048576 kConnx a) := by
  intro l h0 h1
  simp only [P_w_szConn, B_w_szConn]
  obtain ⟨r1, e1, u1, v1⟩ := szByteS_ok a.2.1 (Sm.l (Sm.r h)) l (by omega) (by omega)
  rw [e1]; simp only [bindO]
  by_cases n1 : r1 < 0
  · rw [dec_true n1]; exact ⟨-1, rfl, by omega, fun h => by omega⟩
  rw [dec_false n1]; simp only [cond_false]
  obtain ⟨r2, e2, u2, v2⟩ := szGather_ok a.2.2.1 (Sm.l (Sm.r (Sm.r h))) r1 (by omega) (by omega)
  rw [e2]; simp only [bindO]
  by_cases n2 : r2 < 0
  · rw [dec_true n2]; exact ⟨-1, rfl, by omega, fun h => by omega⟩
  rw [dec_false n2]; simp only [cond_false]
  obtain ⟨r3, e3, u3, v3⟩ := szTable_ok a.2.2.2.1 (Sm.l (Sm.r (Sm.r (Sm.r h)))) r2 (by omega) (by omega)
  rw [e3]; simp only [bindO]
  by_cases n3 : r3 < 0
  · rw [dec_true n3]; exact ⟨-1, rfl, by omega, fun h => by omega⟩
  rw [dec_false n3]; simp only [cond_false]
  obtain ⟨r4, e4, u4, v4⟩ := szTable_ok a.2.2.2.2.1 (Sm.l (Sm.r (Sm.r (Sm.r (Sm.r h))))) r3 (by omega) (by omega)
  rw [e4]; simp only [bindO]
  by_cases n4 : r4 < 0
  · rw [dec_true n4]; exact ⟨-1, rfl, by omega, fun h => by omega⟩
  rw [dec_false n4]; simp only [cond_false]
  obtain ⟨r5, e5, u5, v5⟩ := szStrS_ok a.2.2.2.2.2.1 (Sm.l (Sm.r (Sm.r (Sm.r (Sm.r (Sm.r h)))))) r4 (by omega) (by omega)
  rw [e5]; simp only [bindO]
  by_cases n5 : r5 < 0
  · rw [dec_true n5]; exact ⟨-1, rfl, by omega, fun h => by omega⟩
  rw [dec_false n5]; simp only [cond_false]
  exact ⟨_, rfl, by omega, fun _ => ⟨by simp [Sm], ⟨v1 (by omega), ⟨v2 (by omega), ⟨v3 (by omega), ⟨v4 (by omega), ⟨v5 (by omega), ⟨by simp [Sm], by simp [Sm]⟩⟩⟩⟩⟩⟩⟩⟩
theorem toReq_eq (a : TReq) (h : Sm 1048576 kReq a) : P_w_toReq a = some (a, ()) := by
  simp only [P_w_toReq, B_w_toReq, bindO]
theorem toGather_eq (a : TGather) (h : Sm 1048576 kGather a) : P_w_toGather a = some (a, ()) := by
  simp only [P_w_toGather, B_w_toGather, bindO, toByteS_sm a.2.2 (Sm.r (Sm.r h))]
theorem toField_eq (a : TField) (h : Sm 1048576 kField a) : P_w_toField a = some (a, ()) := by
  simp only [P_w_toField, B_w_toField, bindO]
theorem toFieldS_eq (a : List TField) (h : Sm 1048576 (.sl 161 kField) a) : P_w_toFieldS a = some (a, ()) := by
  have hl : a.length ≤ 1048576 := h.1
  simp only [P_w_toFieldS, B_w_toFieldS]
  rw [dec_true (show (0 : Int) ≤ (a.length : Int) by omega), Int.toNat_natCast, dec_true (by omega), dec_true (by omega)]
  simp only [cond_true]
  refine toS_gen _ a _ (by simp only [maxLen]; omega) (fun i hi b hb => ?_) (fun b => by simp [L_w_toFieldS_0])
  have h1 : ((i : Int) < (a.length : Int)) := by omega
  have h2 : (0 : Int) ≤ (i : Int) := by omega
  simp only [L_w_toFieldS_0, hb, dec_true h1, dec_true h2, cond_true]
  rw [rd_nat (k := kField) (xs := a) hi]
  rw [toField_eq _ (h.2 _ (List.getElem_mem hi))]
  rfl
theorem toTable_eq (a : TTable) (h : Sm 1048576 kTablex a) : P_w_toTable a = some (a, ()) := by
  simp only [P_w_toTable, B_w_toTable, bindO, toFieldS_eq a.2 (Sm.r h)]
theorem toStr_eq (a : TStr) (h : Sm 1048576 kStr a) : P_w_toStr a = some (a, ()) := by
  simp only [P_w_toStr, B_w_toStr, bindO, toReq_eq a.2.2.1 (Sm.l (Sm.r (Sm.r h))), toByteS_sm a.2.2.2 (Sm.r (Sm.r (Sm.r h)))]
theorem toStrS_eq (a : List TStr) (h : Sm 1048576 (.sl 180 kStr) a) : P_w_toStrS a = some (a, ()) := by
  have hl : a.length ≤ 1048576 := h.1
  simp only [P_w_toStrS, B_w_toStrS]
  rw [dec_true (show (0 : Int) ≤ (a.length : Int) by omega), Int.toNat_natCast, dec_true (by omega), dec_true (by omega)]
  simp only [cond_true]
  refine toS_gen _ a _ (by simp only [maxLen]; omega) (fun i hi b hb => ?_) (fun b => by simp [L_w_toStrS_0])
  have h1 : ((i : Int) < (a.length : Int)) := by omega
  have h2 : (0 : Int) ≤ (i : Int) := by omega
  simp only [L_w_toStrS_0, hb, dec_true h1, dec_true h2, cond_true]
  rw [rd_nat (k := kStr) (xs := a) hi]
  rw [toStr_eq _ (h.2 _ (List.getElem_mem hi))]
  rfl
theorem toConn_eq (a : TConn) (h : Sm 1048576 kConnx a) : P_w_toConn a = some (a, ()) := by
  simp only [P_w_toConn, B_w_toConn, bindO, toByteS_sm a.2.1 (Sm.l (Sm.r h)), toGather_eq a.2.2.1 (Sm.l (Sm.r (Sm.r h))), toTable_eq a.2.2.2.1 (Sm.l (Sm.r (Sm.r (Sm.r h)))), toTable_eq a.2.2.2.2.1 (Sm.l (Sm.r (Sm.r (Sm.r (Sm.r h))))), toStrS_eq a.2.2.2.2.2.1 (Sm.l (Sm.r (Sm.r (Sm.r (Sm.r (Sm.r h))))))]
theorem eqReq_sm (a : TReq) (h : Sm maxLen kReq a) : P_w_eqReq a a = some (true, ()) := by
  simp [P_w_eqReq, B_w_eqReq, bindO]
theorem eqGather_refl (a : TGather) (h : Sm maxLen kGather a) : P_w_eqGather a a = some (true, ()) := by
  simp [P_w_eqGather, B_w_eqGather, bindO, eqByteS_sm a.2.2 (Sm.r (Sm.r h))]
theorem eqField_refl (a : TField) (h : Sm maxLen kField a) : P_w_eqField a a = some (true, ()) := by
  simp [P_w_eqField, B_w_eqField, bindO]
theorem eqFieldS_refl (a : List TField) (h : Sm maxLen (.sl 150 kField) a) : P_w_eqFieldS a a = some (true, ()) := by
  simp only [P_w_eqFieldS, B_w_eqFieldS, decide_true, Bool.not_true, cond_false]
  refine eqS_gen _ a.length h.1 (fun i hi => ?_) (by simp [L_w_eqFieldS_0])
  have h1 : ((i : Int) < (a.length : Int)) := by omega
  have h2 : (0 : Int) ≤ (i : Int) := by omega
  simp only [L_w_eqFieldS_0, dec_true h1, dec_true h2, cond_true]
  rw [rd_nat (k := kField) (xs := a) hi, eqField_refl _ (h.2 _ (List.getElem_mem hi))]
  rfl
theorem eqTable_refl (a : TTable) (h : Sm maxLen kTable a) : P_w_eqTable a a = some (true, ()) := by
  simp [P_w_eqTable, B_w_eqTable, bindO, eqFieldS_refl a.2 (Sm.r h)]
theorem eqStr_refl (a : TStr) (h : Sm maxLen kStr a) : P_w_eqStr a a = some (true, ()) := by
  simp [P_w_eqStr, B_w_eqStr, bindO, eqReq_sm a.2.2.1 (Sm.l (Sm.r (Sm.r h))), eqByteS_sm a.2.2.2 (Sm.r (Sm.r (Sm.r h)))]
theorem eqStrS_refl (a : List TStr) (h : Sm maxLen (.sl 113 kStr) a) : P_w_eqStrS a a = some (true, ()) := by
  simp only [P_w_eqStrS, B_w_eqStrS, decide_true, Bool.not_true, cond_false]
  refine eqS_gen _ a.length h.1 (fun i hi => ?_) (by simp [L_w_eqStrS_0])
  have h1 : ((i : Int) < (a.length : Int)) := by omega
  have h2 : (0 : Int) ≤ (i : Int) := by omega
  simp only [L_w_eqStrS_0, dec_true h1, dec_true h2, cond_true]
  rw [rd_nat (k := kStr) (xs := a) hi, eqStr_refl _ (h.2 _ (List.getElem_mem hi))]
  rfl
theorem eqConn_refl (a : TConn) (h : Sm maxLen kConn a) : P_w_eqConn a a = some (true, ()) := by
  simp [P_w_eqConn, B_w_eqConn, bindO, eqByteS_sm a.2.1 (Sm.l (Sm.r h)), eqGather_refl a.2.2.1 (Sm.l (Sm.r (Sm.r h))), eqTable_refl a.2.2.2.1 (Sm.l (Sm.r (Sm.r (Sm.r h)))), eqTable_refl a.2.2.2.2.1 (Sm.l (Sm.r (Sm.r (Sm.r (Sm.r h))))), eqStrS_refl a.2.2.2.2.2.1 (Sm.l (Sm.r (Sm.r (Sm.r (Sm.r (Sm.r h))))))]

theorem l1In_eq (a b c : Int) : P_s_l1In a b c = some (decide (b ≤ a ∧ a ≤ c), ()) := by
  simp only [P_s_l1In, B_s_l1In]
  by_cases h : b ≤ a <;> by_cases h2 : a ≤ c <;> simp [h, h2]
theorem inRange_eq (a b c : Int) : P_i_inRange a b c = some (decide (b ≤ a ∧ a ≤ c), ()) := l1In_eq a b c

theorem eqO_self {R : Type} (a : Option R) : eqO a a = a := by
  unfold eqO
  rw [if_pos rfl]
theorem clone_byte_eq (a : List Int) (h : a.length ≤ 140737488355328) : P_slices_Clone_byte_byte a = some (a, ()) := by
  simp only [P_slices_Clone_byte_byte, B_slices_Clone_byte_byte]
  have e : (bif decide (([] : List Int).length + a.length ≤ 9223372036854775807) then bif decide ((([] : List Int).length + a.length) * 1 ≤ 140737488355328) then some (([] ++ a), ()) else none else none) = some (a, ()) := by
    rw [dec_true (by simp; omega), dec_true (by simp; omega)]
    simp
  rw [e]
  cases a with
  | nil => simp [eqO_self]
  | cons x xs => simp

def bigAt (n : Int) (k j : Nat) : Int := IntKind.u8.wrap (n.fdiv (2 ^ (8 * (k - 1 - j))))
def big (n : Int) (k : Nat) : List Int := (List.range k).map (bigAt n k)
theorem big_len (n : Int) (k : Nat) : (big n k).length = k := by simp [big]
theorem wu64 {n : Int} (h0 : 0 ≤ n) (h1 : n < 18446744073709551616) : IntKind.u64.wrap n = n := by
  simp only [IntKind.wrap, IntKind.bits, IntKind.signed]
  simp
  omega
theorem putLoop (v : Int) (b : List Int) (k : Nat) (hk : k ≤ 8) (hb : b.length + 8 ≤ 140737488355328) : loopO (L_s_PutBig_0 (v, ())) ((k : Int) - 1, b, ()) = some (b ++ big v k, ()) := by
  have key := loopO_count (L_s_PutBig_0 (v, ())) (fun j => ((k : Int) - 1 - (j : Int), b ++ (List.range j).map (bigAt v k), ())) k (b ++ big v k, ()) (fun j hj => ?_) ?_
  · simpa using key
  · have h1 : (k : Int) - 1 - (j : Int) ≥ 0 := by omega
    have e1 : (k : Int) - 1 - (j : Int) = ((k - 1 - j : Nat) : Int) := by omega
    have hs : IntKind.u64.wrap (IntKind.i64.wrap (8 * ((k : Int) - 1 - (j : Int)))) = ((8 * (k - 1 - j) : Nat) : Int) := by
      rw [w64 (by omega) (by omega), wu64 (by omega) (by omega)]
      omega
    have hm : min (8 * (k - 1 - j)) IntKind.i64.bits = 8 * (k - 1 - j) := Nat.min_eq_left (by simp only [IntKind.bits]; omega)
    simp only [L_s_PutBig_0, dec_true h1, cond_true, hs, Int.toNat_natCast, hm]
    rw [dec_false (by omega)]
    simp only [cond_false]
    have hl : (b ++ (List.range j).map (bigAt v k)).length = b.length + j := by simp
    rw [dec_true (by rw [hl]; simp; omega), dec_true (by rw [hl]; simp; omega)]
    simp only [cond_true]
    rw [w64 (by omega) (by omega), List.range_succ, List.map_append, List.append_assoc]
    have e2 : (k : Int) - 1 - (j : Int) - 1 = (k : Int) - 1 - ((j + 1 : Nat) : Int) := by omega
    rw [e2]
    rfl
  · have h1 : ¬ ((k : Int) - 1 - (k : Int) ≥ 0) := by omega
    simp only [L_s_PutBig_0, dec_false h1, cond_false]
    rfl
def clamp (n : Int) : Int := if n < 0 then 0 else n
theorem s_PutBig_eq (b : List Int) (n : Int) (k : Nat) (h1 : 1 ≤ k) (hk : k ≤ 8) (hb : b.length + 8 ≤ 140737488355328) : P_s_PutBig b n (k : Int) = some (b ++ big (clamp n) k, ()) := by
  simp only [P_s_PutBig, B_s_PutBig]
  rw [dec_true (by simp; omega), dec_true (by simp; omega)]
  have e : (bif decide (n < 0) then some ((0 : Int), ()) else some (n, ())) = some (clamp n, ()) := by
    unfold clamp
    by_cases h : n < 0 <;> simp [h]
  simp only [cond_true, e, bindO, l1In_eq]
  rw [dec_true (by omega)]
  simp only [Bool.not_true, cond_false, List.nil_append]
  rw [w64 (by omega) (by omega)]
  exact putLoop _ b k hk hb
theorem i_putBig_eq (b : List Int) (n : Int) (k : Nat) (hk : k ≤ 8) (hb : b.length + 8 ≤ 140737488355328) : P_i_putBig b n (k : Int) = some (b ++ big (clamp n) k, ()) := by
  simp only [P_i_putBig, B_i_putBig]
  have e : L_i_putBig_0 n = L_s_PutBig_0 (clamp n, ()) := by
    funext l
    have : (bif decide (0 > n) then (0 : Int) else n) = clamp n := by
      unfold clamp
      by_cases h : n < 0 <;> simp [h]
    simp only [L_i_putBig_0, L_s_PutBig_0, this]
  rw [e, w64 (by omega) (by omega)]
  exact putLoop _ b k hk hb
abbrev Frame := Int × Int × Int × List Int
def frameOkB (f : Frame) : Bool := decide (0 ≤ f.1 ∧ f.1 ≤ 255) && decide (0 ≤ f.2.1 ∧ f.2.1 ≤ 255) && decide (0 ≤ f.2.2.1 ∧ f.2.2.1 ≤ 2147483647) && decide ((f.2.2.2.length : Int) ≤ 1000)
theorem s_FrameOk_eq (f : Frame) : P_s_FrameOk f = some (frameOkB f, ()) := by
  simp only [P_s_FrameOk, B_s_FrameOk, l1In_eq, bindO, frameOkB]
  cases decide (0 ≤ f.1 ∧ f.1 ≤ 255) <;> cases decide (0 ≤ f.2.1 ∧ f.2.1 ≤ 255) <;> cases decide (0 ≤ f.2.2.1 ∧ f.2.2.1 ≤ 2147483647) <;> simp
def frameB (f : Frame) : List Int := big (f.2.2.2.length : Int) 3 ++ [IntKind.u8.wrap f.1, IntKind.u8.wrap f.2.1] ++ big (clamp f.2.2.1) 4 ++ f.2.2.2
theorem i_putFrame_eq (b : List Int) (f : Frame) (h : b.length + f.2.2.2.length + 24 ≤ 140737488355328) : P_i_putFrame b f = some (b ++ frameB f, ()) := by
  simp only [P_i_putFrame, B_i_putFrame]
  rw [show (3 : Int) = ((3 : Nat) : Int) from rfl, i_putBig_eq b _ 3 (by omega) (by omega)]
  have hc : clamp (f.2.2.2.length : Int) = (f.2.2.2.length : Int) := by unfold clamp; rw [if_neg (by omega)]
  simp only [bindO, hc]
  have hl := big_len (f.2.2.2.length : Int) 3
  rw [dec_true (by simp [hl]; omega), dec_true (by simp [hl]; omega)]
  simp only [cond_true]
  rw [show (4 : Int) = ((4 : Nat) : Int) from rfl, i_putBig_eq _ _ 4 (by omega) (by simp [hl]; omega)]
  simp only [bindO]
  have hl4 := big_len (clamp f.2.2.1) 4
  rw [dec_true (by simp [hl, hl4]; omega), dec_true (by simp [hl, hl4]; omega)]
  simp [frameB]
theorem s_PutFrame_eq (f : Frame) (h : f.2.2.2.length + 24 ≤ 140737488355328) : P_s_PutFrame f = some (if frameOkB f then frameB f else [], ()) := by
  simp only [P_s_PutFrame, B_s_PutFrame, pe, s_FrameOk_eq, bindO]
  cases frameOkB f with
  | false => rfl
  | true =>
    simp only [Bool.not_true, cond_false]
    rw [show (3 : Int) = ((3 : Nat) : Int) from rfl, s_PutBig_eq [] _ 3 (by omega) (by omega) (by simp)]
    have hc : clamp (f.2.2.2.length : Int) = (f.2.2.2.length : Int) := by unfold clamp; rw [if_neg (by omega)]
    simp only [hc]
    have hl := big_len (f.2.2.2.length : Int) 3
    rw [dec_true (by simp [hl]), dec_true (by simp [hl])]
    simp only [cond_true]
    rw [show (4 : Int) = ((4 : Nat) : Int) from rfl, s_PutBig_eq _ _ 4 (by omega) (by omega) (by simp [hl])]
    have hl4 := big_len (clamp f.2.2.1) 4
    simp only
    rw [dec_true (by simp [hl, hl4]; omega), dec_true (by simp [hl, hl4]; omega)]
    simp [frameB]

theorem wI64 {n : Nat} (h : n < 9223372036854775808) : IntKind.i64.wrap (n : Int) = (n : Int) := w64 (by omega) (by omega)
theorem bits_nat {w x : Nat} (h : x < 2 ^ w) : (BitVec.ofInt w (x : Int)).toNat = x := by
  rw [BitVec.ofInt_natCast, BitVec.toNat_ofNat]
  exact Nat.mod_eq_of_lt h


abbrev Resp := Int × Int
def respOkB (r : Resp) : Bool := decide (100 ≤ r.1 ∧ r.1 ≤ 599) && decide (-1 ≤ r.2 ∧ r.2 ≤ 1000000000)
theorem s_RespOk_eq (r : Resp) : P_s_RespOk r = some (respOkB r, ()) := by
  simp only [P_s_RespOk, B_s_RespOk, l1In_eq, bindO, respOkB]
  cases decide (100 ≤ r.1 ∧ r.1 ≤ 599) <;> simp
theorem i_RespOk_eq (r : Resp) : P_i_RespOk r = some (respOkB r, ()) := by
  simp only [P_i_RespOk, B_i_RespOk, inRange_eq, bindO, respOkB]
  cases decide (100 ≤ r.1 ∧ r.1 ≤ 599) <;> simp
def far (c : Client) (off : Int) : Client := if 0 ≤ off ∧ off ≤ (c.2.1.length : Int) then (if off = (c.2.1.length : Int) then (c.1, c.2.1, 4, off) else (c.1, c.2.1, 3, off)) else (c.1, c.2.1, 6, c.2.2.2)



theorem gatherOk_eq : P_i_GatherOk = P_s_GatherOk := rfl
theorem tableOk_eq : P_i_TableOk = P_s_TableOk := rfl
theorem s_GatherOk_ok (g : TGather) : ∃ b, P_s_GatherOk g = some (b, ()) := by
  simp only [P_s_GatherOk, B_s_GatherOk, l1In_eq, bindO]
  by_cases h1 : g.1 = 0
  · rw [dec_true h1]
    cases g.2.1 <;> exact ⟨_, rfl⟩
  · rw [dec_false h1]
    cases decide (1 ≤ g.1 ∧ g.1 ≤ 2147483647) <;> exact ⟨_, rfl⟩
theorem s_SizeOf_ok (t : TTable) (h : t.2.length ≤ maxLen) : ∃ b, P_s_SizeOf t = some (b, ()) := by
  obtain ⟨z, e, _⟩ := loopO_ind (L_s_SizeOf_0 P_s_l4Of t) (fun l => ((t.2.length : Int) - l.2.1).toNat) (fun l => 0 ≤ l.2.1) (fun _ => True) (fun l hl => by
    simp only [L_s_SizeOf_0]
    by_cases hi : l.2.1 < (t.2.length : Int)
    · simp only [dec_true hi, dec_true hl, cond_true, P_s_l4Of, B_s_l4Of, bindO]
      rw [w64 (n := l.2.1 + 1) (by omega) (by simp only [maxLen] at h; omega)]
      exact .inl ⟨_, rfl, by simp only; omega, by simp only; omega⟩
    · simp only [dec_false hi, cond_false]
      exact .inr ⟨_, rfl, trivial⟩) (0, 0, ()) (by simp)
  exact ⟨z.1, e⟩
theorem s_TableOk_ok (t : TTable) (h : t.2.length ≤ maxLen) : ∃ b, P_s_TableOk t = some (b, ()) := by
  obtain ⟨b, hb⟩ := s_SizeOf_ok t h
  simp only [P_s_TableOk, B_s_TableOk, l1In_eq, bindO, hb]
  cases decide (0 ≤ t.1 ∧ t.1 ≤ 4096) <;> exact ⟨_, rfl⟩
/-- One stream of a connection is right. -/
def strOkB (c : TConn) (i : Nat) : Bool :=
  decide ((rd kStr c.2.2.2.2.2.1 (i : Int)).1.tmod 2 = 1) && decide (1 ≤ (rd kStr c.2.2.2.2.2.1 (i : Int)).1 ∧ (rd kStr c.2.2.2.2.2.1 (i : Int)).1 ≤ c.2.2.2.2.2.2.1) &&
  (decide (i = 0) || !decide ((rd kStr c.2.2.2.2.2.1 (i : Int)).1 ≤ (rd kStr c.2.2.2.2.2.1 ((i : Int) - 1)).1)) &&
  (decide ((rd kStr c.2.2.2.2.2.1 (i : Int)).2.1 = 1) || decide ((rd kStr c.2.2.2.2.2.1 (i : Int)).2.1 = 2)) && !decide ((List.length (rd kStr c.2.2.2.2.2.1 (i : Int)).2.2.2 : Int) > 2000)
theorem strs_of {L : Int × Unit → Option ((Int × Unit) ⊕ (Unit ⊕ (Bool × Unit)))} {n : Nat} {go : Nat → Bool} (hs : ∀ i : Nat, i < n → L ((i : Int), ()) = bif go i then some (.inl (((i + 1 : Nat) : Int), ())) else some (.inr (.inr (false, ()))))
    (he : L ((n : Int), ()) = some (.inr (.inl ()))) (g : Unit → Option (Bool × Unit)) (b : Bool) (hg : g () = some (b, ())) : bindS (loopO L (0, ())) g = some (decide (firstN go 0 n = n) && b, ()) := by
  have h := loopO_first L (fun i => ((i : Int), ())) n (fun i => if i = n then .inl () else .inr (false, ())) go (fun i hi => by
    rw [hs i hi]
    cases go i with
    | true => rfl
    | false => simp only [Bool.false_eq_true, if_false, cond_false]; rw [if_neg (by omega)]) (by rw [he, if_pos rfl])
  have h' : loopO L (0, ()) = _ := h
  rw [h']
  by_cases hn : firstN go 0 n = n
  · rw [if_pos hn, dec_true hn]; simp [bindS, hg]
  · rw [if_neg hn, dec_false hn]; simp [bindS]
theorem s_strs_step (c : TConn) (h : c.2.2.2.2.2.1.length ≤ maxLen) (i : Nat) (hi : i < c.2.2.2.2.2.1.length) : L_s_l16Strs_0 P_s_l1In c ((i : Int), ()) = bif strOkB c i then some (.inl (((i + 1 : Nat) : Int), ())) else some (.inr (.inr (false, ()))) := by
  have h1 : ((i : Int) < (c.2.2.2.2.2.1.length : Int)) := by omega
  have h2 : (0 : Int) ≤ (i : Int) := by omega
  simp only [maxLen] at h
  simp only [L_s_l16Strs_0, dec_true h1, dec_true h2, cond_true, l1In_eq, bindO, strOkB]
  rw [w64 (n := (i : Int) + 1) (by omega) (by omega), w64 (n := (i : Int) - 1) (by omega) (by omega)]
  have e1 : ((i + 1 : Nat) : Int) = (i : Int) + 1 := by omega
  rw [e1]
  have hge : decide ((rd kStr c.2.2.2.2.2.1 ((i : Int) - 1)).1 ≥ (rd kStr c.2.2.2.2.2.1 (i : Int)).1) = decide ((rd kStr c.2.2.2.2.2.1 (i : Int)).1 ≤ (rd kStr c.2.2.2.2.2.1 ((i : Int) - 1)).1) := rfl
  rw [hge]
  by_cases hz : i = 0
  · have g1 : ¬ (i : Int) > 0 := by omega
    simp only [dec_false g1, dec_true hz, cond_false, Bool.true_or, Bool.and_true]
    generalize decide ((rd kStr c.2.2.2.2.2.1 (i : Int)).1.tmod 2 = 1) = x1
    generalize decide (1 ≤ (rd kStr c.2.2.2.2.2.1 (i : Int)).1 ∧ (rd kStr c.2.2.2.2.2.1 (i : Int)).1 ≤ c.2.2.2.2.2.2.1) = x2
    generalize decide ((rd kStr c.2.2.2.2.2.1 (i : Int)).2.1 = 1) = x4
    generalize decide ((rd kStr c.2.2.2.2.2.1 (i : Int)).2.1 = 2) = x5
    generalize decide ((List.length (rd kStr c.2.2.2.2.2.1 (i : Int)).2.2.2 : Int) > 2000) = x6
    cases x1 <;> cases x2 <;> cases x4 <;> cases x5 <;> cases x6 <;> rfl
  · have g1 : (i : Int) > 0 := by omega
    have g2 : (0 : Int) ≤ (i : Int) - 1 := by omega
    have g3 : (i : Int) - 1 < (c.2.2.2.2.2.1.length : Int) := by omega
    simp only [dec_true g1, dec_true g2, dec_true g3, dec_false hz, cond_true, Bool.false_or]
    generalize decide ((rd kStr c.2.2.2.2.2.1 (i : Int)).1.tmod 2 = 1) = x1
    generalize decide (1 ≤ (rd kStr c.2.2.2.2.2.1 (i : Int)).1 ∧ (rd kStr c.2.2.2.2.2.1 (i : Int)).1 ≤ c.2.2.2.2.2.2.1) = x2
    generalize decide ((rd kStr c.2.2.2.2.2.1 (i : Int)).1 ≤ (rd kStr c.2.2.2.2.2.1 ((i : Int) - 1)).1) = x3
    generalize decide ((rd kStr c.2.2.2.2.2.1 (i : Int)).2.1 = 1) = x4
    generalize decide ((rd kStr c.2.2.2.2.2.1 (i : Int)).2.1 = 2) = x5
    generalize decide ((List.length (rd kStr c.2.2.2.2.2.1 (i : Int)).2.2.2 : Int) > 2000) = x6
    cases x1 <;> cases x2 <;> cases x3 <;> cases x4 <;> cases x5 <;> cases x6 <;> rfl
theorem i_strs_step (c : TConn) (h : c.2.2.2.2.2.1.length ≤ maxLen) (i : Nat) (hi : i < c.2.2.2.2.2.1.length) : L_i_strsOk_0 P_i_inRange c ((i : Int), ()) = bif strOkB c i then some (.inl (((i + 1 : Nat) : Int), ())) else some (.inr (.inr (false, ()))) := by
  have h1 : ((i : Int) < (c.2.2.2.2.2.1.length : Int)) := by omega
  have h2 : (0 : Int) ≤ (i : Int) := by omega
  simp only [maxLen] at h
  simp only [L_i_strsOk_0, dec_true h1, dec_true h2, cond_true, inRange_eq, bindO, strOkB]
  rw [w64 (n := (i : Int) + 1) (by omega) (by omega), w64 (n := (i : Int) - 1) (by omega) (by omega)]
  have e1 : ((i + 1 : Nat) : Int) = (i : Int) + 1 := by omega
  rw [e1]
  by_cases hz : i = 0
  · have g1 : ¬ (i : Int) > 0 := by omega
    simp only [dec_false g1, dec_true hz, cond_false, Bool.true_or, Bool.and_true]
    generalize decide ((rd kStr c.2.2.2.2.2.1 (i : Int)).1.tmod 2 = 1) = x1
    generalize decide (1 ≤ (rd kStr c.2.2.2.2.2.1 (i : Int)).1 ∧ (rd kStr c.2.2.2.2.2.1 (i : Int)).1 ≤ c.2.2.2.2.2.2.1) = x2
    generalize decide ((rd kStr c.2.2.2.2.2.1 (i : Int)).2.1 = 1) = x4
    generalize decide ((rd kStr c.2.2.2.2.2.1 (i : Int)).2.1 = 2) = x5
    generalize decide ((List.length (rd kStr c.2.2.2.2.2.1 (i : Int)).2.2.2 : Int) > 2000) = x6
    cases x1 <;> cases x2 <;> cases x4 <;> cases x5 <;> cases x6 <;> rfl
  · have g1 : (i : Int) > 0 := by omega
    have g2 : (0 : Int) ≤ (i : Int) - 1 := by omega
    have g3 : (i : Int) - 1 < (c.2.2.2.2.2.1.length : Int) := by omega
    simp only [dec_true g1, dec_true g2, dec_true g3, dec_false hz, cond_true, Bool.false_or]
    generalize decide ((rd kStr c.2.2.2.2.2.1 (i : Int)).1.tmod 2 = 1) = x1
    generalize decide (1 ≤ (rd kStr c.2.2.2.2.2.1 (i : Int)).1 ∧ (rd kStr c.2.2.2.2.2.1 (i : Int)).1 ≤ c.2.2.2.2.2.2.1) = x2
    generalize decide ((rd kStr c.2.2.2.2.2.1 (i : Int)).1 ≤ (rd kStr c.2.2.2.2.2.1 ((i : Int) - 1)).1) = x3
    generalize decide ((rd kStr c.2.2.2.2.2.1 (i : Int)).2.1 = 1) = x4
    generalize decide ((rd kStr c.2.2.2.2.2.1 (i : Int)).2.1 = 2) = x5
    generalize decide ((List.length (rd kStr c.2.2.2.2.2.1 (i : Int)).2.2.2 : Int) > 2000) = x6
    cases x1 <;> cases x2 <;> cases x3 <;> cases x4 <;> cases x5 <;> cases x6 <;> rfl
def strsB (c : TConn) : Bool := decide (firstN (strOkB c) 0 c.2.2.2.2.2.1.length = c.2.2.2.2.2.1.length) && decide ((c.2.2.2.2.2.1.length : Int) ≤ 100)
theorem s_strs_eq (c : TConn) (h : c.2.2.2.2.2.1.length ≤ maxLen) : P_s_l16Strs c = some (strsB c, ()) := by
  simp only [P_s_l16Strs, B_s_l16Strs]
  exact strs_of (s_strs_step c h) (by simp [L_s_l16Strs_0]) _ _ rfl
theorem i_strs_eq (c : TConn) (h : c.2.2.2.2.2.1.length ≤ maxLen) : P_i_strsOk c = some (strsB c, ()) := by
  simp only [P_i_strsOk, B_i_strsOk]
  exact strs_of (i_strs_step c h) (by simp [L_i_strsOk_0]) _ _ rfl

theorem bOr_i64 {x y : Nat} (hx : x < 9223372036854775808) (hy : y < 9223372036854775808) : bOr .i64 (x : Int) (y : Int) = ((x ||| y : Nat) : Int) := by
  have h : x ||| y < 2 ^ 63 := Nat.or_lt_two_pow (by omega) (by omega)
  unfold bOr
  rw [BitVec.toNat_or, bits_nat (by simp only [IntKind.bits]; omega), bits_nat (by simp only [IntKind.bits]; omega)]
  exact wI64 (by omega)
/-- The number that k bytes from a place on are. -/
def bigN (b : List Int) (at_ : Nat) : Nat → Nat
  | 0 => 0
  | j + 1 => (bigN b at_ j * 256) ||| (b.getD (at_ + j) 0).toNat
theorem byt_getD {b : List Int} (hb : Byt b) (i : Nat) : 0 ≤ b.getD i 0 ∧ b.getD i 0 < 256 := by
  by_cases h : i < b.length
  · simp only [List.getD, List.getElem?_eq_getElem h, Option.getD_some]
    exact hb _ (List.getElem_mem h)
  · simp only [List.getD, List.getElem?_eq_none (show b.length ≤ i by omega), Option.getD_none]
    omega
theorem bigN_lt {b : List Int} (hb : Byt b) (at_ : Nat) : ∀ j, bigN b at_ j < 2 ^ (8 * j)
  | 0 => by simp [bigN]
  | j + 1 => by
    have h1 := bigN_lt hb at_ j
    have h2 := byt_getD hb (at_ + j)
    have e : 2 ^ (8 * (j + 1)) = 2 ^ (8 * j) * 256 := by rw [show 8 * (j + 1) = 8 * j + 8 by omega, Nat.pow_add]
    refine Nat.or_lt_two_pow ?_ ?_
    · rw [e]; exact Nat.mul_lt_mul_of_pos_right h1 (by omega)
    · have : 1 ≤ 2 ^ (8 * j) := Nat.one_le_two_pow
      rw [e]; omega
theorem big_step {b : List Int} (hb : Byt b) (at_ j : Nat) (hj : j < 7) (x : Int) (hx : x = b.getD (at_ + j) 0) : bOr .i64 (IntKind.i64.wrap (((bigN b at_ j : Nat) : Int) * 256)) (IntKind.i64.wrap x) = ((bigN b at_ (j + 1) : Nat) : Int) := by
  have h1 := bigN_lt hb at_ j
  have h2 := byt_getD hb (at_ + j)
  have h3 : 2 ^ (8 * j) ≤ 2 ^ 48 := Nat.pow_le_pow_right (by omega) (by omega)
  subst hx
  rw [show ((bigN b at_ j : Nat) : Int) * 256 = ((bigN b at_ j * 256 : Nat) : Int) by omega, wI64 (by omega), show b.getD (at_ + j) 0 = (((b.getD (at_ + j) 0).toNat : Nat) : Int) by omega, wI64 (by omega), bOr_i64 (by omega) (by omega)]
  simp only [bigN, Int.toNat_natCast]
def getBig (b : List Int) (a : Int) (k : Nat) : Int × Bool × Unit := if 0 ≤ a ∧ a ≤ (b.length : Int) - k then ((bigN b a.toNat k : Int), true, ()) else (0, false, ())
theorem s_GetBig_eq (b : List Int) (hb : Byt b) (h : b.length ≤ 1048576) (a : Int) (k : Nat) (hk : 1 ≤ k ∧ k ≤ 7) : P_s_GetBig b a (k : Int) = some (getBig b a k) := by
  simp only [P_s_GetBig, B_s_GetBig, l1In_eq, bindO, getBig]
  rw [dec_true (show (1 : Int) ≤ (k : Int) ∧ (k : Int) ≤ 7 by omega), w64 (by omega) (by omega)]
  simp only [Bool.not_true, cond_false]
  by_cases h1 : a < 0
  · rw [dec_true h1, if_neg (by omega)]; rfl
  rw [dec_false h1]
  by_cases h2 : a > (b.length : Int) - k
  · rw [dec_true h2, if_neg (by omega)]; rfl
  rw [dec_false h2, if_pos (by omega)]
  simp only [cond_false, bindS]
  have key := loopO_count (L_s_GetBig_0 (k : Int) a b) (fun j => ((bigN b a.toNat j : Int), (j : Int), ())) k ((bigN b a.toNat k : Int), ()) (fun j hj => ?_) ?_
  · have e : loopO (L_s_GetBig_0 (k : Int) a b) (0, 0, ()) = _ := key
    rw [e]
  · have g1 : (j : Int) < (k : Int) := by omega
    simp only [L_s_GetBig_0, dec_true g1, cond_true]
    rw [w64 (n := a + (j : Int)) (by omega) (by omega)]
    have g2 : 0 ≤ a + (j : Int) := by omega
    have g3 : a + (j : Int) < (b.length : Int) := by omega
    rw [dec_true g2, dec_true g3]
    simp only [cond_true]
    rw [big_step hb a.toNat j (by omega) _ (by
      rw [show a + (j : Int) = ((a.toNat + j : Nat) : Int) by omega, rd_int (by omega)]
      simp [List.getD, show a.toNat + j < b.length by omega]), show (j : Int) + 1 = ((j + 1 : Nat) : Int) by omega, wI64 (by omega)]
  · simp [L_s_GetBig_0]
theorem i_GetBig_eq (b : List Int) (hb : Byt b) (h : b.length ≤ 1048576) (a : Int) (k : Nat) (hk : 1 ≤ k ∧ k ≤ 7) : P_i_GetBig b a (k : Int) = some (getBig b a k) := by
  simp only [P_i_GetBig, B_i_GetBig, inRange_eq, bindO, getBig]
  rw [dec_true (show (1 : Int) ≤ (k : Int) ∧ (k : Int) ≤ 7 by omega), w64 (n := (b.length : Int) - (k : Int)) (by omega) (by omega)]
  simp only [Bool.not_true, cond_false]
  by_cases h1 : a < 0
  · rw [dec_true h1, if_neg (by omega)]; rfl
  rw [dec_false h1]
  by_cases h2 : a > (b.length : Int) - k
  · rw [dec_true h2, if_neg (by omega)]; rfl
  rw [dec_false h2, if_pos (by omega)]
  simp only [cond_false, bindS]
  rw [w64 (n := a + (k : Int)) (by omega) (by omega), dec_true (show 0 ≤ a by omega), dec_true (show a ≤ a + (k : Int) by omega), dec_true (show a + (k : Int) ≤ (b.length : Int) by omega)]
  simp only [cond_true]
  have hlen : ((b.take (a + (k : Int)).toNat).drop a.toNat).length = k := by simp; omega
  have key := loopO_count (L_i_GetBig_0 b a (k : Int)) (fun j => ((bigN b a.toNat j : Int), (j : Int), ())) k ((bigN b a.toNat k : Int), ()) (fun j hj => ?_) ?_
  · have e : loopO (L_i_GetBig_0 b a (k : Int)) (0, 0, ()) = _ := key
    rw [e]
  · have g1 : (j : Int) < (k : Int) := by omega
    have g2 : (0 : Int) ≤ (j : Int) := by omega
    simp only [L_i_GetBig_0]
    rw [w64 (n := a + (k : Int)) (by omega) (by omega)]
    simp only [hlen, dec_true g1, dec_true g2, cond_true]
    rw [big_step hb a.toNat j (by omega) _ (by
      rw [rd_int (by rw [hlen]; exact hj)]
      simp [List.getD, show a.toNat + j < b.length by omega]), show (j : Int) + 1 = ((j + 1 : Nat) : Int) by omega, wI64 (by omega)]
  · simp only [L_i_GetBig_0]
    rw [w64 (n := a + (k : Int)) (by omega) (by omega)]
    simp [hlen]
/-- A frame of bytes. -/
def getFrame (b : List Int) (a : Int) : TFrame × Int × Int × Unit :=
  if 0 ≤ a ∧ a ≤ (b.length : Int) - 9 then
    (if (bigN b a.toNat 3 : Int) > 1000 then ((0, 0, 0, []), a, 2, ())
      else if (bigN b a.toNat 3 : Int) > (b.length : Int) - a - 9 then ((0, 0, 0, []), a, 1, ())
      else ((rd (.int .u8) b (a + 3), rd (.int .u8) b (a + 4), bAnd .i64 (bigN b (a + 5).toNat 4 : Int) 2147483647, (b.take (a + 9 + (bigN b a.toNat 3 : Int)).toNat).drop (a + 9).toNat), a + 9 + (bigN b a.toNat 3 : Int), 0, ()))
  else ((0, 0, 0, []), a, 1, ())
theorem rd_byte {b : List Int} (hb : Byt b) {i : Int} (h0 : 0 ≤ i) (h1 : i < (b.length : Int)) : IntKind.i64.wrap (rd (.int .u8) b i) = rd (.int .u8) b i := by
  obtain ⟨n, rfl⟩ : ∃ n : Nat, i = (n : Int) := ⟨i.toNat, by omega⟩
  rw [rd_int (by omega)]
  have := hb b[n] (List.getElem_mem (by omega))
  exact w64 (by omega) (by omega)
theorem s_GetFrame_eq (b : List Int) (hb : Byt b) (h : b.length ≤ 1048576) (a : Int) (ha : -9223372036854775808 ≤ a ∧ a < 9223372036854775808) : P_s_GetFrame b a = some (getFrame b a) := by
  simp only [P_s_GetFrame, B_s_GetFrame]
  rw [show (3 : Int) = ((3 : Nat) : Int) from rfl, s_GetBig_eq b hb h a 3 (by omega), show (4 : Int) = ((4 : Nat) : Int) from rfl, s_GetBig_eq b hb h _ 4 (by omega)]
  simp only [bindO, getFrame]
  by_cases hin : 0 ≤ a ∧ a ≤ (b.length : Int) - 9
  · have hn := bigN_lt hb a.toNat 3
    rw [if_pos hin]
    have e3 : getBig b a 3 = ((bigN b a.toNat 3 : Int), true, ()) := by unfold getBig; rw [if_pos (by omega)]
    have e5 : IntKind.i64.wrap (a + 5) = a + 5 := w64 (by omega) (by omega)
    have e4 : getBig b (a + 5) 4 = ((bigN b (a + 5).toNat 4 : Int), true, ()) := by unfold getBig; rw [if_pos (by omega)]
    simp only [e5, e3, e4, Bool.not_true, cond_false]
    by_cases h1 : (bigN b a.toNat 3 : Int) > 1000
    · rw [dec_true h1, if_pos h1]; rfl
    rw [dec_false h1, if_neg h1]
    have e9 : IntKind.i64.wrap (IntKind.i64.wrap ((b.length : Int) - a) - 9) = (b.length : Int) - a - 9 := by rw [w64 (n := (b.length : Int) - a) (by omega) (by omega)]; exact w64 (by omega) (by omega)
    rw [e9]
    by_cases h2 : (bigN b a.toNat 3 : Int) > (b.length : Int) - a - 9
    · rw [dec_true h2, if_pos h2]; rfl
    rw [dec_false h2, if_neg h2]
    simp only [cond_false, bindS]
    have w3 : IntKind.i64.wrap (a + ((3 : Nat) : Int)) = a + 3 := w64 (by omega) (by omega)
    have w4 : IntKind.i64.wrap (a + ((4 : Nat) : Int)) = a + 4 := w64 (by omega) (by omega)
    have w9 : IntKind.i64.wrap (a + 9) = a + 9 := w64 (by omega) (by omega)
    have wn : IntKind.i64.wrap (a + 9 + (bigN b a.toNat 3 : Int)) = a + 9 + (bigN b a.toNat 3 : Int) := w64 (by omega) (by omega)
    simp only [w3, w4, w9, wn]
    rw [dec_true (show 0 ≤ a + 3 by omega), dec_true (show a + 3 < (b.length : Int) by omega), dec_true (show 0 ≤ a + 4 by omega), dec_true (show a + 4 < (b.length : Int) by omega), dec_true (show 0 ≤ a + 9 by omega), dec_true (show a + 9 ≤ a + 9 + (bigN b a.toNat 3 : Int) by omega), dec_true (show a + 9 + (bigN b a.toNat 3 : Int) ≤ (b.length : Int) by omega), dec_true (by simp; omega), dec_true (by simp; omega)]
    simp only [cond_true, List.nil_append]
    rw [rd_byte hb (show 0 ≤ a + 3 by omega) (by omega), rd_byte hb (show 0 ≤ a + 4 by omega) (by omega)]
  · rw [if_neg hin]
    by_cases h3 : 0 ≤ a ∧ a ≤ (b.length : Int) - 3
    · have e5 : IntKind.i64.wrap (a + 5) = a + 5 := w64 (by omega) (by omega)
      have e4 : getBig b (a + 5) 4 = (0, false, ()) := by unfold getBig; rw [if_neg (by omega)]
      simp only [e5, e4]
      cases (getBig b a 3).2.1 <;> rfl
    · have e3 : getBig b a 3 = (0, false, ()) := by unfold getBig; rw [if_neg (by omega)]
      simp only [e3]
      rfl
theorem i_GetFrame_eq (b : List Int) (hb : Byt b) (h : b.length ≤ 1048576) (a : Int) (ha : -9223372036854775808 ≤ a ∧ a < 9223372036854775808) : P_i_GetFrame b a = some (getFrame b a) := by
  simp only [P_i_GetFrame, B_i_GetFrame]
  rw [w64 (n := (b.length : Int) - 9) (by omega) (by omega)]
  simp only [getFrame]
  by_cases h1 : a < 0
  · rw [dec_true h1, if_neg (by omega)]; rfl
  rw [dec_false h1]
  by_cases h2 : a > (b.length : Int) - 9
  · rw [dec_true h2, if_neg (by omega)]; rfl
  rw [dec_false h2, if_pos (by omega)]
  have hn := bigN_lt hb a.toNat 3
  simp only [cond_false, bindS]
  rw [show (3 : Int) = ((3 : Nat) : Int) from rfl, i_GetBig_eq b hb h a 3 (by omega), show (4 : Int) = ((4 : Nat) : Int) from rfl, i_GetBig_eq b hb h _ 4 (by omega)]
  have e3 : getBig b a 3 = ((bigN b a.toNat 3 : Int), true, ()) := by unfold getBig; rw [if_pos (by omega)]
  have e5 : IntKind.i64.wrap (a + 5) = a + 5 := w64 (by omega) (by omega)
  have e4 : getBig b (a + 5) 4 = ((bigN b (a + 5).toNat 4 : Int), true, ()) := by unfold getBig; rw [if_pos (by omega)]
  have w9 : IntKind.i64.wrap (a + 9) = a + 9 := w64 (by omega) (by omega)
  simp only [bindO, e5, e3, e4, w9]
  by_cases h3 : (bigN b a.toNat 3 : Int) > 1000
  · rw [dec_true h3, if_pos h3]; rfl
  rw [dec_false h3, if_neg h3, w64 (n := (b.length : Int) - (a + 9)) (by omega) (by omega)]
  by_cases h4 : (bigN b a.toNat 3 : Int) > (b.length : Int) - a - 9
  · rw [dec_true (show (bigN b a.toNat 3 : Int) > (b.length : Int) - (a + 9) by omega), if_pos h4]; rfl
  rw [dec_false (show ¬ (bigN b a.toNat 3 : Int) > (b.length : Int) - (a + 9) by omega), if_neg h4]
  simp only [cond_false]
  have w3 : IntKind.i64.wrap (a + ((3 : Nat) : Int)) = a + 3 := w64 (by omega) (by omega)
  have w4 : IntKind.i64.wrap (a + ((4 : Nat) : Int)) = a + 4 := w64 (by omega) (by omega)
  have wn : IntKind.i64.wrap (a + 9 + (bigN b a.toNat 3 : Int)) = a + 9 + (bigN b a.toNat 3 : Int) := w64 (by omega) (by omega)
  simp only [w3, w4, wn]
  rw [dec_true (show 0 ≤ a + 3 by omega), dec_true (show a + 3 < (b.length : Int) by omega), dec_true (show 0 ≤ a + 4 by omega), dec_true (show a + 4 < (b.length : Int) by omega), dec_true (show 0 ≤ a + 9 by omega), dec_true (show a + 9 ≤ a + 9 + (bigN b a.toNat 3 : Int) by omega), dec_true (show a + 9 + (bigN b a.toNat 3 : Int) ≤ (b.length : Int) by omega)]
  simp only [cond_true]
  rw [clone_byte_eq _ (by simp; omega), rd_byte hb (show 0 ≤ a + 3 by omega) (by omega), rd_byte hb (show 0 ≤ a + 4 by omega) (by omega)]
  rfl

theorem strOf_size (xs : List Int) : (strOf xs).size = xs.length := strOfNums_size xs
theorem app_size (a b : ByteArray) : (a ++ b).size = a.size + b.size := ByteArray.size_append
theorem markText_ok (k : Int) (h : k < 4611686018427387904) : ∃ s, P_w_markText k = some (s, ()) := by
  simp only [P_w_markText, B_w_markText]
  by_cases h0 : k ≤ 0
  · rw [dec_true h0]; exact ⟨_, rfl⟩
  rw [dec_false h0]
  obtain ⟨z, e, hz⟩ := loopO_ind L_w_markText_0 (fun l => l.1.toNat) (fun l => 0 ≤ l.1 ∧ (l.2.1.size : Int) + l.1 ≤ k) (fun z => (z.1.size : Int) ≤ k) (fun l hl => by
    obtain ⟨n, out, u⟩ := l
    simp only at hl ⊢
    simp only [L_w_markText_0]
    by_cases hp : n > 0
    · refine .inl ⟨(n.tdiv 10, strOf [IntKind.u8.wrap (IntKind.i64.wrap (48 + n.tmod 10))] ++ out, ()), ?_, ?_, ?_⟩
      · rw [dec_true hp]
        simp only [cond_true]
        rw [dec_false (by rw [strOf_size]; simp [IntKind.max, IntKind.signed, IntKind.bits]; omega)]
        simp only [cond_false]
        rw [w64 (n := n.tdiv 10) (by rw [Int.tdiv_eq_ediv_of_nonneg (by omega)]; omega) (by rw [Int.tdiv_eq_ediv_of_nonneg (by omega)]; omega)]
      · simp only
        rw [app_size, strOf_size, Int.tdiv_eq_ediv_of_nonneg (by omega)]
        simp only [List.length_singleton]
        omega
      · simp only
        rw [Int.tdiv_eq_ediv_of_nonneg (by omega)]
        omega
    · rw [dec_false hp]
      exact .inr ⟨_, rfl, by simp only; omega⟩) (k, ⟨#[]⟩, ()) (by
      constructor
      · simp only; omega
      · show ((0 : Nat) : Int) + k ≤ k
        omega)
  rw [e]
  simp only [bindO, cond_false]
  have h1 : (⟨#[109]⟩ : ByteArray).size = 1 := rfl
  rw [dec_false (by rw [h1]; simp [IntKind.max, IntKind.signed, IntKind.bits]; omega)]
  exact ⟨_, rfl⟩
noncomputable def mt (k : Int) : ByteArray := match P_w_markText k with
  | some (s, _) => s
  | none => ⟨#[]⟩
theorem markText_eq (k : Int) (h : k < 4611686018427387904) : P_w_markText k = some (mt k, ()) := by
  obtain ⟨s, hs⟩ := markText_ok k h
  unfold mt
  rw [hs]



theorem firstN_goes (go : Nat → Bool) : ∀ k i j, i ≤ j → j < firstN go i k → go j = true
  | 0, i, j, h1, h2 => by simp only [firstN] at h2; omega
  | k + 1, i, j, h1, h2 => by
    simp only [firstN] at h2
    split at h2
    · rename_i hg
      by_cases e : j = i
      · rw [e]; exact hg
      · exact firstN_goes go k (i + 1) j (by omega) h2
    · omega


theorem rd_set {k : K} {b : List k.T} {i : Nat} (h : i < b.length) (u : k.T) : rd k (b.set i u) (i : Int) = u := by
  rw [rd_nat (xs := b.set i u) (by simpa using h)]
  simp
/-- What is marked from m on is found again from m on, and takes no more than n marks. -/
def MH {T : Type} (mark : Int → Option (Int × T × Unit)) (held : T → Int → Option (Int × Unit)) (n : Nat) : Prop :=
  ∀ m : Int, 0 ≤ m → m + n < 4611686018427387904 → ∃ m' y, mark m = some (m', y, ()) ∧ m ≤ m' ∧ m' ≤ m + n ∧ held y m = some (m', ())
def cost {T : Type} (c : T → Nat) (a : List T) : Nat := (a.map c).sum
theorem cost_drop {T : Type} (c : T → Nat) {a : List T} {i : Nat} (h : i < a.length) : cost c (a.drop i) = c a[i] + cost c (a.drop (i + 1)) := by
  rw [List.drop_eq_getElem_cons h]
  simp only [cost, List.map_cons, List.sum_cons]
theorem mhS_gen {T : Type} (Lm : Int × Int × List T × Unit → Option ((Int × Int × List T × Unit) ⊕ (Int × List T × Unit))) (Lh : List T → Int × Int × Unit → Option ((Int × Int × Unit) ⊕ (Int × Unit))) (c : T → Nat) (a : List T) (hn : a.length ≤ 1048576)
    (hs : ∀ (i : Nat) (hi : i < a.length) (m : Int), 0 ≤ m → m + c a[i] < 4611686018427387904 → ∃ m' u, m ≤ m' ∧ m' ≤ m + c a[i] ∧ (∀ (b : List T) (hb : b.length = a.length), b[i]'(by omega) = a[i] → Lm (m, (i : Int), b, ()) = some (.inl (m', (i : Int) + 1, b.set i u, ()))) ∧
      ∀ (b : List T) (hb : b.length = a.length), b[i]'(by omega) = u → Lh b (m, (i : Int), ()) = some (.inl (m', (i : Int) + 1, ())))
    (he : ∀ m (b : List T), b.length = a.length → Lm (m, (a.length : Int), b, ()) = some (.inr (m, b, ()))) (hf : ∀ m (b : List T), b.length = a.length → Lh b (m, (a.length : Int), ()) = some (.inr (m, ()))) :
    MH (fun m => loopO Lm (m, 0, a, ())) (fun y m => loopO (Lh y) (m, 0, ())) (cost c a) := by
  have key : ∀ k i, i + k = a.length → ∀ m : Int, 0 ≤ m → m + cost c (a.drop i) < 4611686018427387904 → ∃ m' us, us.length = k ∧ m ≤ m' ∧ m' ≤ m + cost c (a.drop i) ∧
      (∀ pre : List T, pre.length = i → loopO Lm (m, (i : Int), pre ++ a.drop i, ()) = some (m', pre ++ us, ())) ∧ ∀ pre : List T, pre.length = i → loopO (Lh (pre ++ us)) (m, (i : Int), ()) = some (m', ()) := by
    intro k
    induction k with
    | zero =>
      intro i hi m h0 h1
      obtain rfl : i = a.length := by omega
      refine ⟨m, [], rfl, Int.le_refl _, by omega, fun pre hp => ?_, fun pre hp => ?_⟩
      · rw [loopO_eq, he _ _ (by simp [hp])]
        simp
      · rw [loopO_eq, hf _ _ (by simp [hp])]
    | succ k ih =>
      intro i hi m h0 h1
      have hlt : i < a.length := by omega
      rw [cost_drop c hlt] at h1 ⊢
      obtain ⟨m1, u, g1, g2, g3, g4⟩ := hs i hlt m h0 (by omega)
      obtain ⟨m', us, h2, h3, h4, h5, h6⟩ := ih (i + 1) (by omega) m1 (by omega) (by omega)
      have e1 : (i : Int) + 1 = ((i + 1 : Nat) : Int) := by omega
      rw [e1] at g3 g4
      refine ⟨m', u :: us, by simp [h2], by omega, by omega, fun pre hp => ?_, fun pre hp => ?_⟩
      · have hl : (pre ++ a.drop i).length = a.length := by simp [hp]; omega
        have hg : (pre ++ a.drop i)[i]'(by omega) = a[i] := by
          rw [List.getElem_append_right (by omega)]
          simp [hp]
        rw [loopO_eq, g3 _ hl hg]
        have hset : (pre ++ a.drop i).set i u = (pre ++ [u]) ++ a.drop (i + 1) := by
          rw [List.set_append_right _ _ (by omega), hp, Nat.sub_self, List.drop_eq_getElem_cons hlt, List.set_cons_zero]
          simp
        rw [hset]
        have := h5 (pre ++ [u]) (by simp [hp])
        simp only [List.append_assoc, List.singleton_append] at this
        simpa using this
      · have hl : (pre ++ u :: us).length = a.length := by simp [hp, h2]; omega
        have hg : (pre ++ u :: us)[i]'(by omega) = u := by
          rw [List.getElem_append_right (by omega)]
          simp [hp]
        rw [loopO_eq, g4 _ hl hg]
        have := h6 (pre ++ [u]) (by simp [hp])
        simp only [List.append_assoc, List.singleton_append] at this
        exact this
  intro m h0 h1
  obtain ⟨m', us, h2, h3, h4, h5, h6⟩ := key a.length 0 (by omega) m h0 (by simpa using h1)
  exact ⟨m', us, by simpa using h5 [] rfl, h3, by simpa using h4, by simpa using h6 [] rfl⟩
theorem mh_byteS (a : List Int) : MH (P_w_markByteS a) P_w_heldByteS a.length := fun m h0 h1 => ⟨_, _, markByteS_eq a m h0 (by omega), by omega, Int.le_refl _, heldByteS_eq a.length m h0 (by omega)⟩



theorem sm_mono {N M : Nat} (h : N ≤ M) : ∀ {k : K} {x : k.T}, Sm N k x → Sm M k x
  | .int _, _, _ => trivial
  | .bool, _, _ => trivial
  | .fnc _, _, _ => trivial
  | .str, _, g => Nat.le_trans g h
  | .sl _ _, _, g => ⟨Nat.le_trans g.1 h, fun x hx => sm_mono h (g.2 x hx)⟩
  | .rs _ _, _, g => ⟨Nat.le_trans g.1 h, fun x hx => sm_mono h (g.2 x hx)⟩
  | .pa _ _, _, _ => trivial
  | .pair _ _, _, g => ⟨sm_mono h g.1, sm_mono h g.2⟩

set_option maxRecDepth 100000
def lensT : List Int := [13, 23, 28, 28, 28, 28, 28, 28, 28, 24, 30, 28, 28, 30, 28, 28, 28, 28, 28, 28, 28, 28, 30, 28, 28, 28, 28, 28, 28, 28, 28, 28, 6, 10, 10, 12, 13, 6, 8, 11, 10, 10, 8, 11, 8, 6, 6, 6, 5, 5, 5, 6, 6, 6, 6, 6, 6, 6, 7, 8, 15, 6, 12, 10, 13, 6, 7, 7, 7, 7, 7, 7, 7, 7, 7, 7, 7, 7, 7, 7, 7, 7, 7, 7, 7, 7, 7, 7, 8, 7, 8, 13, 19, 13, 14, 6, 15, 5, 6, 5, 6, 5, 6, 6, 6, 5, 7, 7, 6, 6, 6, 5, 6, 7, 6, 5, 5, 6, 7, 7, 7, 7, 7, 15, 11, 14, 13, 28, 20, 22, 20, 20, 22, 22, 22, 23, 22, 23, 23, 23, 23, 23, 24, 23, 24, 24, 22, 23, 24, 23, 23, 23, 23, 21, 22, 23, 22, 23, 23, 24, 22, 21, 20, 22, 22, 23, 23, 21, 23, 22, 22, 24, 21, 22, 23, 23, 21, 21, 22, 21, 23, 22, 23, 23, 20, 22, 22, 22, 23, 22, 22, 23, 26, 26, 20, 19, 22, 23, 22, 25, 26, 26, 26, 27, 27, 26, 24, 25, 19, 21, 26, 27, 27, 26, 27, 24, 21, 21, 26, 26, 28, 27, 27, 27, 20, 24, 20, 21, 22, 21, 21, 23, 22, 22, 25, 25, 24, 24, 26, 23, 26, 27, 26, 26, 27, 27, 27, 27, 27, 28, 27, 27, 27, 27, 27, 26, 30]
theorem s_l3Lens_eq : P_s_l3Lens = some (lensT, ()) := rfl
theorem lensT_len : lensT.length = 257 := by kernel_rfl
theorem lensT_all : (lensT.all fun x => decide (5 ≤ x) && decide (x ≤ 30)) = true := by kernel_rfl
theorem u64_nonneg (x : Int) : ¬ (IntKind.u64.wrap x < 0) := by
  simp only [IntKind.wrap, IntKind.bits, IntKind.signed, Bool.false_and]
  simp
  omega
/-- One symbol of the reference's assignment at a length. -/
def cst (n : Int) (st : Int × Int × List Int) (sym : Nat) : Int × Int × List Int :=
  if (lensT.getD sym 0) = n then
    (let code := if st.2.1 > 0 then IntKind.i64.wrap ((IntKind.i64.wrap (st.1 + 1)) * 2 ^ (min (IntKind.u64.wrap (IntKind.i64.wrap (n - st.2.1))).toNat IntKind.i64.bits)) else st.1
     (code, n, st.2.2.set sym code)) else st
def csts (n : Int) (st : Int × Int × List Int) : Nat → Int × Int × List Int
  | 0 => st
  | k + 1 => cst n (csts n st k) k
def lvl (st : Int × Int × List Int) : Nat → Int × Int × List Int
  | 0 => st
  | k + 1 => csts ((k : Int) + 1) (lvl st k) 257
def codesT : List Int := (lvl (0, 0, List.replicate 257 0) 30).2.2
theorem cst_len (n : Int) (st : Int × Int × List Int) (sym : Nat) : (cst n st sym).2.2.length = st.2.2.length := by
  unfold cst
  split <;> simp
theorem csts_len (n : Int) (st : Int × Int × List Int) : ∀ k, (csts n st k).2.2.length = st.2.2.length
  | 0 => rfl
  | k + 1 => by rw [csts, cst_len, csts_len n st k]
theorem lvl_len (st : Int × Int × List Int) : ∀ k, (lvl st k).2.2.length = st.2.2.length
  | 0 => rfl
  | k + 1 => by rw [lvl, csts_len, lvl_len st k]
theorem getD_rd {xs : List Int} {i : Nat} : rd (.int .i64) xs (i : Int) = xs.getD i 0 := by
  simp [rd, zd]
theorem l3Codes_in (c l s n : Int) (o : List Int) (ho : o.length = 257) (hn : n < 1000) (hn0 : 0 ≤ n) (a b d : Int) (e : List Int) :
    loopO (L_s_l3Codes_0 (lensT, ()) (a, b, n, e, ())) (c, l, 0, o, ()) = some (.inl ((csts n (c, l, o) 257).1, (csts n (c, l, o) 257).2.1, n + 1, (csts n (c, l, o) 257).2.2, ())) := by
  have hl : ∀ k, (csts n (c, l, o) k).2.2.length = 257 := fun k => by rw [csts_len]; exact ho
  refine loopO_count (L_s_l3Codes_0 (lensT, ()) (a, b, n, e, ())) (fun k => ((csts n (c, l, o) k).1, (csts n (c, l, o) k).2.1, (k : Int), (csts n (c, l, o) k).2.2, ())) 257 _ (fun k hk => ?_) ?_
  · have h1 : (k : Int) ≤ 256 := by omega
    have h2 : (0 : Int) ≤ (k : Int) := by omega
    have h3 : (k : Int) < (lensT.length : Int) := by rw [lensT_len]; omega
    have h4 : (k : Int) < ((csts n (c, l, o) k).2.2.length : Int) := by rw [hl]; omega
    have h5 : IntKind.i64.wrap ((k : Int) + 1) = ((k + 1 : Nat) : Int) := by rw [w64 (by omega) (by omega)]; omega
    simp only [L_s_l3Codes_0, dec_true h1, dec_true h2, dec_true h3, dec_true h4, cond_true, getD_rd, h5, dec_false (u64_nonneg _), cond_false, Int.toNat_natCast, bindO]
    have e1 : csts n (c, l, o) (k + 1) = cst n (csts n (c, l, o) k) k := rfl
    rw [e1]
    unfold cst
    by_cases hq : lensT.getD k 0 = n
    · simp only [hq, decide_true, Bool.not_true, cond_false, if_true]
      by_cases hg : (csts n (c, l, o) k).2.1 > 0
      · simp only [dec_true hg, cond_true, if_pos hg]
      · simp only [dec_false hg, cond_false, if_neg hg]
    · simp only [dec_false hq, Bool.not_false, cond_true, if_neg hq]
  · have h1 : ¬ ((257 : Nat) : Int) ≤ 256 := by omega
    simp only [L_s_l3Codes_0, dec_false h1, cond_false]
    rw [w64 (by omega) (by omega)]
theorem s_l3Codes_eq : P_s_l3Codes = some (codesT, ()) := by
  simp only [P_s_l3Codes, B_s_l3Codes, s_l3Lens_eq, bindO]
  have hl : ∀ k, (lvl (0, 0, List.replicate 257 0) k).2.2.length = 257 := fun k => by rw [lvl_len]; simp
  refine loopO_count (L_s_l3Codes_1 (lensT, ())) (fun k => ((lvl (0, 0, List.replicate 257 0) k).1, (lvl (0, 0, List.replicate 257 0) k).2.1, ((k : Int) + 1), (lvl (0, 0, List.replicate 257 0) k).2.2, ())) 30 _ (fun k hk => ?_) ?_
  · have h1 : (k : Int) + 1 ≤ 30 := by omega
    simp only [L_s_l3Codes_1, dec_true h1, cond_true]
    rw [l3Codes_in _ _ 0 _ _ (hl k) (by omega) (by omega) _ _ 0 _]
    simp only [lvl]
    congr 4
  · have h1 : ¬ ((30 : Nat) : Int) + 1 ≤ 30 := by omega
    simp only [L_s_l3Codes_1, dec_false h1, cond_false]
    rfl
theorem codesT_len : codesT.length = 257 := by unfold codesT; rw [lvl_len]; simp
set_option maxRecDepth 100000
def lensS : ByteArray := ⟨#[49, 51, 32, 50, 51, 32, 50, 56, 32, 50, 56, 32, 50, 56, 32, 50, 56, 32, 50, 56, 32, 50, 56, 32, 50, 56, 32, 50, 52, 32, 51, 48, 32, 50, 56, 32, 50, 56, 32, 51, 48, 32, 50, 56, 32, 50, 56, 32, 50, 56, 32, 50, 56, 32, 50, 56, 32, 50, 56, 32, 50, 56, 32, 50, 56, 32, 51, 48, 32, 50, 56, 32, 50, 56, 32, 50, 56, 32, 50, 56, 32, 50, 56, 32, 50, 56, 32, 50, 56, 32, 50, 56, 32, 50, 56, 32, 54, 32, 49, 48, 32, 49, 48, 32, 49, 50, 32, 49, 51, 32, 54, 32, 56, 32, 49, 49, 32, 49, 48, 32, 49, 48, 32, 56, 32, 49, 49, 32, 56, 32, 54, 32, 54, 32, 54, 32, 53, 32, 53, 32, 53, 32, 54, 32, 54, 32, 54, 32, 54, 32, 54, 32, 54, 32, 54, 32, 55, 32, 56, 32, 49, 53, 32, 54, 32, 49, 50, 32, 49, 48, 32, 49, 51, 32, 54, 32, 55, 32, 55, 32, 55, 32, 55, 32, 55, 32, 55, 32, 55, 32, 55, 32, 55, 32, 55, 32, 55, 32, 55, 32, 55, 32, 55, 32, 55, 32, 55, 32, 55, 32, 55, 32, 55, 32, 55, 32, 55, 32, 55, 32, 56, 32, 55, 32, 56, 32, 49, 51, 32, 49, 57, 32, 49, 51, 32, 49, 52, 32, 54, 32, 49, 53, 32, 53, 32, 54, 32, 53, 32, 54, 32, 53, 32, 54, 32, 54, 32, 54, 32, 53, 32, 55, 32, 55, 32, 54, 32, 54, 32, 54, 32, 53, 32, 54, 32, 55, 32, 54, 32, 53, 32, 53, 32, 54, 32, 55, 32, 55, 32, 55, 32, 55, 32, 55, 32, 49, 53, 32, 49, 49, 32, 49, 52, 32, 49, 51, 32, 50, 56, 32, 50, 48, 32, 50, 50, 32, 50, 48, 32, 50, 48, 32, 50, 50, 32, 50, 50, 32, 50, 50, 32, 50, 51, 32, 50, 50, 32, 50, 51, 32, 50, 51, 32, 50, 51, 32, 50, 51, 32, 50, 51, 32, 50, 52, 32, 50, 51, 32, 50, 52, 32, 50, 52, 32, 50, 50, 32, 50, 51, 32, 50, 52, 32, 50, 51, 32, 50, 51, 32, 50, 51, 32, 50, 51, 32, 50, 49, 32, 50, 50, 32, 50, 51, 32, 50, 50, 32, 50, 51, 32, 50, 51, 32, 50, 52, 32, 50, 50, 32, 50, 49, 32, 50, 48, 32, 50, 50, 32, 50, 50, 32, 50, 51, 32, 50, 51, 32, 50, 49, 32, 50, 51, 32, 50, 50, 32, 50, 50, 32, 50, 52, 32, 50, 49, 32, 50, 50, 32, 50, 51, 32, 50, 51, 32, 50, 49, 32, 50, 49, 32, 50, 50, 32, 50, 49, 32, 50, 51, 32, 50, 50, 32, 50, 51, 32, 50, 51, 32, 50, 48, 32, 50, 50, 32, 50, 50, 32, 50, 50, 32, 50, 51, 32, 50, 50, 32, 50, 50, 32, 50, 51, 32, 50, 54, 32, 50, 54, 32, 50, 48, 32, 49, 57, 32, 50, 50, 32, 50, 51, 32, 50, 50, 32, 50, 53, 32, 50, 54, 32, 50, 54, 32, 50, 54, 32, 50, 55, 32, 50, 55, 32, 50, 54, 32, 50, 52, 32, 50, 53, 32, 49, 57, 32, 50, 49, 32, 50, 54, 32, 50, 55, 32, 50, 55, 32, 50, 54, 32, 50, 55, 32, 50, 52, 32, 50, 49, 32, 50, 49, 32, 50, 54, 32, 50, 54, 32, 50, 56, 32, 50, 55, 32, 50, 55, 32, 50, 55, 32, 50, 48, 32, 50, 52, 32, 50, 48, 32, 50, 49, 32, 50, 50, 32, 50, 49, 32, 50, 49, 32, 50, 51, 32, 50, 50, 32, 50, 50, 32, 50, 53, 32, 50, 53, 32, 50, 52, 32, 50, 52, 32, 50, 54, 32, 50, 51, 32, 50, 54, 32, 50, 55, 32, 50, 54, 32, 50, 54, 32, 50, 55, 32, 50, 55, 32, 50, 55, 32, 50, 55, 32, 50, 55, 32, 50, 56, 32, 50, 55, 32, 50, 55, 32, 50, 55, 32, 50, 55, 32, 50, 55, 32, 50, 54, 32, 51, 48]⟩
def lensP : List (List UInt8) := Lib.splitK [32] 0 (Lib.count lensS.data.toList [32]) lensS.data.toList
theorem lensP_at : (lensP.map Lib.atoi) = lensT.map some := by kernel_rfl
theorem lensP_sz : (lensP.all fun x => Nat.ble x.length 18) = true := by kernel_rfl
theorem lensS_split : (Lib.splitB ⟨#[32]⟩ 0 (Lib.countB lensS ⟨#[32]⟩) lensS).map (·.data.toList) = lensP := by
  rw [Lib.splitB_data]
  rfl
theorem lensL_gen (s : ByteArray) (P : List (List UInt8)) (hs : s.size < 4294967281) (h0 : (Lib.splitB ⟨#[32]⟩ 0 (Lib.countB s ⟨#[32]⟩) s).map (·.data.toList) = P) (hP : (P.map Lib.atoi) = lensT.map some) (hz : (P.all fun x => Nat.ble x.length 18) = true) :
    ∃ c : List ByteArray, splitFn s ⟨#[32]⟩ = some (c, ()) ∧ c.length = 257 ∧ ∀ k (h : k < c.length), atoiFn c[k] = some (lensT.getD k 0, (), ()) := by
  have h1 : (decide (s.size < 4294967281) && decide (1 ≤ (⟨#[32]⟩ : ByteArray).size)) = true := by
    rw [dec_true hs]; rfl
  refine ⟨_, by simp only [splitFn, h1, cond_true]; rfl, ?_, fun k hk => ?_⟩
  · have := congrArg List.length h0
    rw [List.length_map] at this
    rw [this]
    have h2 := congrArg List.length hP
    rw [List.length_map, List.length_map, lensT_len] at h2
    exact h2
  · generalize hc : Lib.splitB ⟨#[32]⟩ 0 (Lib.countB s ⟨#[32]⟩) s = c at *
    have e := h0
    have hk2 : k < P.length := by rw [← e, List.length_map]; exact hk
    have e1 : (c[k]).data.toList = P[k] := by
      have : (c.map (·.data.toList))[k]? = P[k]? := by rw [e]
      rw [List.getElem?_map, List.getElem?_eq_getElem hk, List.getElem?_eq_getElem hk2] at this
      simpa using this
    have e2 : Lib.atoi P[k] = some (lensT.getD k 0) := by
      have : (P.map Lib.atoi)[k]? = (lensT.map some)[k]? := by rw [hP]
      rw [List.getElem?_map, List.getElem?_eq_getElem hk2, List.getElem?_map] at this
      cases hq : lensT[k]? with
      | none => rw [hq] at this; cases this
      | some v =>
        rw [hq] at this
        simp only [Option.map_some, Option.some.injEq] at this
        rw [this, List.getD_eq_getElem?_getD, hq]; rfl
    have e3 : (c[k]).size ≤ 18 := by
      have h4 := List.all_eq_true.1 hz P[k] (List.getElem_mem hk2)
      have h5 := Nat.le_of_ble_eq_true h4
      rw [← e1] at h5
      exact h5
    simp only [atoiFn, dec_true e3, cond_true, e1, e2]
theorem lensS_sz : lensS.size < 4294967281 := by
  have : Nat.ble (lensS.size + 1) 4294967281 = true := by kernel_rfl
  exact Nat.le_of_ble_eq_true this
theorem lensL_ok : ∃ c : List ByteArray, splitFn lensS ⟨#[32]⟩ = some (c, ()) ∧ c.length = 257 ∧ ∀ k (h : k < c.length), atoiFn c[k] = some (lensT.getD k 0, (), ()) :=
  lensL_gen lensS lensP lensS_sz lensS_split lensP_at lensP_sz
set_option maxRecDepth 100000
/-- The first pass: the sizes. -/
def szs (r : List (Int × Int)) : Nat → List (Int × Int)
  | 0 => r
  | k + 1 => (szs r k).set k (((szs r k).getD k (0, 0)).1, lensT.getD k 0)
theorem szs_len (r : List (Int × Int)) : ∀ k, (szs r k).length = r.length
  | 0 => rfl
  | k + 1 => by rw [szs, List.length_set, szs_len r k]
theorem szs_all : szs (List.replicate 257 (0, 0)) 257 = lensT.map fun n => (0, n) := by kernel_rfl
def ist (n : Int) (st : Int × List (Int × Int)) (sym : Nat) : Int × List (Int × Int) :=
  if (st.2.getD sym (0, 0)).2 = n then (IntKind.i64.wrap (st.1 + 1), st.2.set sym (st.1, (st.2.getD sym (0, 0)).2)) else st
def ists (n : Int) (st : Int × List (Int × Int)) : Nat → Int × List (Int × Int)
  | 0 => st
  | k + 1 => ist n (ists n st k) k
def ilvl (st : Int × List (Int × Int)) : Nat → Int × List (Int × Int)
  | 0 => st
  | k + 1 => ists ((k : Int) + 1) (IntKind.i64.wrap ((ilvl st k).1 * 2), (ilvl st k).2) 257
theorem ist_len (n : Int) (st : Int × List (Int × Int)) (sym : Nat) : (ist n st sym).2.length = st.2.length := by
  unfold ist
  split <;> simp
theorem ists_len (n : Int) (st : Int × List (Int × Int)) : ∀ k, (ists n st k).2.length = st.2.length
  | 0 => rfl
  | k + 1 => by rw [ists, ist_len, ists_len n st k]
theorem ilvl_len (st : Int × List (Int × Int)) : ∀ k, (ilvl st k).2.length = st.2.length
  | 0 => rfl
  | k + 1 => by rw [ilvl, ists_len, ilvl_len st k]
def codesI : List (Int × Int) := (ilvl (0, lensT.map fun n => (0, n)) 30).2
theorem codesI_eq : codesI = codesT.zip lensT := by kernel_rfl
theorem getD_rdp {xs : List (Int × Int)} {i : Nat} : rd kResp xs (i : Int) = xs.getD i (0, 0) := by
  simp [rd, zd]
theorem codesOf_in (c n : Int) (o : List (Int × Int)) (ho : o.length = 257) (hn : n < 1000) (hn0 : 0 ≤ n) (a : Int) (e : List (Int × Int)) :
    loopO (L_i_codesOf_1 (a, n, e, ())) (c, 0, o, ()) = some (.inl ((ists n (c, o) 257).1, n + 1, (ists n (c, o) 257).2, ())) := by
  have hl : ∀ k, (ists n (c, o) k).2.length = 257 := fun k => by rw [ists_len]; exact ho
  refine loopO_count (L_i_codesOf_1 (a, n, e, ())) (fun k => ((ists n (c, o) k).1, (k : Int), (ists n (c, o) k).2, ())) 257 _ (fun k hk => ?_) ?_
  · have h1 : (k : Int) < 257 := by omega
    have h2 : (0 : Int) ≤ (k : Int) := by omega
    have h5 : IntKind.i64.wrap ((k : Int) + 1) = ((k + 1 : Nat) : Int) := by rw [w64 (by omega) (by omega)]; omega
    simp only [L_i_codesOf_1, dec_true h1, dec_true h2, cond_true, getD_rdp, h5, Int.toNat_natCast]
    have e1 : ists n (c, o) (k + 1) = ist n (ists n (c, o) k) k := rfl
    rw [e1]
    unfold ist
    by_cases hq : ((ists n (c, o) k).2.getD k (0, 0)).2 = n
    · simp only [dec_true hq, cond_true, if_pos hq]
    · simp only [dec_false hq, cond_false, if_neg hq]
  · have h1 : ¬ ((257 : Nat) : Int) < 257 := by omega
    simp only [L_i_codesOf_1, dec_false h1, cond_false]
    rw [w64 (by omega) (by omega)]
theorem i_codesOf_eq : P_i_codesOf = some (codesT.zip lensT, ()) := by
  obtain ⟨c, hc, hcl, hca⟩ := lensL_ok
  rw [← codesI_eq]
  have e0 : P_i_codesOf = bindO (bindO (splitFn lensS ⟨#[32]⟩) fun c7 => loopO (L_i_codesOf_0 atoiFn c7) (0, (List.replicate 257 (0, 0)), ())) fun (m1 : List TResp × Unit) => loopO (L_i_codesOf_2) (0, 1, m1.1, ()) := rfl
  rw [e0, hc]
  have f1 : loopO (L_i_codesOf_0 atoiFn (c, ())) (0, (List.replicate 257 (0, 0)), ()) = some (lensT.map fun n => (0, n), ()) := by
    have hl : ∀ k, (szs (List.replicate 257 (0, 0)) k).length = 257 := fun k => by rw [szs_len]; simp
    refine loopO_count (L_i_codesOf_0 atoiFn (c, ())) (fun k => ((k : Int), szs (List.replicate 257 (0, 0)) k, ())) 257 _ (fun k hk => ?_) ?_
    · have h1 : (k : Int) < 257 := by omega
      have h2 : (0 : Int) ≤ (k : Int) := by omega
      have h3 : (k : Int) < (c.length : Int) := by rw [hcl]; omega
      have h5 : IntKind.i64.wrap ((k : Int) + 1) = ((k + 1 : Nat) : Int) := by rw [w64 (by omega) (by omega)]; omega
      have h6 : rd .str c (k : Int) = c[k]'(by omega) := rd_nat (k := .str) (by omega)
      simp only [L_i_codesOf_0, dec_true h1, dec_true h2, dec_true h3, cond_true, h6, hca k (by omega), bindO, getD_rdp, h5, Int.toNat_natCast]
      rfl
    · have h1 : ¬ ((257 : Nat) : Int) < (c.length : Int) := by rw [hcl]; omega
      simp only [L_i_codesOf_0, dec_false h1, cond_false, szs_all]
  simp only [bindO, f1]
  have hl : ∀ k, (ilvl (0, lensT.map fun n => (0, n)) k).2.length = 257 := fun k => by rw [ilvl_len, List.length_map, lensT_len]
  refine loopO_count L_i_codesOf_2 (fun k => ((ilvl (0, lensT.map fun n => (0, n)) k).1, ((k : Int) + 1), (ilvl (0, lensT.map fun n => (0, n)) k).2, ())) 30 _ (fun k hk => ?_) ?_
  · have h1 : (k : Int) + 1 ≤ 30 := by omega
    simp only [L_i_codesOf_2, dec_true h1, cond_true]
    rw [codesOf_in _ _ _ (hl k) (by omega) (by omega)]
    simp only [ilvl]
    congr 4
  · have h1 : ¬ ((30 : Nat) : Int) + 1 ≤ 30 := by omega
    simp only [L_i_codesOf_2, dec_false h1, cond_false]
    rfl
set_option maxRecDepth 100000
theorem gA {R : Type} {n : Nat} {X : Option R} (h : n ≤ 140737488355328) : (bif decide (n ≤ 9223372036854775807) then bif decide (n * 1 ≤ 140737488355328) then X else none else none) = X := by
  rw [dec_true (by omega), dec_true (by omega)]; rfl
theorem gA32 {R : Type} {n : Nat} {X : Option R} (h : n ≤ 1000000000000) : (bif decide (n ≤ 9223372036854775807) then bif decide (n * 32 ≤ 140737488355328) then X else none else none) = X := by
  rw [dec_true (by omega), dec_true (by omega)]; rfl
theorem gA48 {R : Type} {n : Nat} {X : Option R} (h : n ≤ 1000000000000) : (bif decide (n ≤ 9223372036854775807) then bif decide (n * 48 ≤ 140737488355328) then X else none else none) = X := by
  rw [dec_true (by omega), dec_true (by omega)]; rfl
theorem bOr_comm (k : IntKind) (x y : Int) : bOr k x y = bOr k y x := by
  unfold bOr
  rw [BitVec.or_comm]
def more : Nat → Int → List Int
  | 0, v => [IntKind.u8.wrap v]
  | k + 1, v => if v > 127 then IntKind.u8.wrap (bOr .i64 (bAnd .i64 v 127) 128) :: more k (v.fdiv 128) else [IntKind.u8.wrap v]
theorem more_len : ∀ k v, (more k v).length ≤ k + 1
  | 0, v => by simp [more]
  | k + 1, v => by
    have := more_len k (v.fdiv 128)
    simp only [more]
    split <;> simp <;> omega
theorem more_loop : ∀ (k : Nat) (v : Int) (b : List Int), 0 ≤ v → v < 128 ^ (k + 1) → b.length + k + 2 ≤ 140737488355328 →
    ∃ v' ex, loopO L_s_PutPrefix_0 (v, b, ()) = some (v', b ++ ex, ()) ∧ ex ++ [IntKind.u8.wrap v'] = more k v ∧ ex.length ≤ k
  | 0, v, b, h0, h1, hb => by
    have h1' : v < 128 := by simpa using h1
    have h2 : ¬ v > 127 := by omega
    refine ⟨v, [], ?_, rfl, by simp⟩
    rw [loopO_eq]
    simp only [L_s_PutPrefix_0, dec_false h2, cond_false, List.append_nil]
  | k + 1, v, b, h0, h1, hb => by
    by_cases h2 : v > 127
    · have h3 : v.fdiv 128 = v / 128 := Int.fdiv_eq_ediv_of_nonneg _ (by omega)
      obtain ⟨v', ex, e1, e2, e3⟩ := more_loop k (v.fdiv 128) (b ++ [IntKind.u8.wrap (bOr .i64 (bAnd .i64 v 127) 128)]) (by omega) (by rw [h3]; rw [Int.pow_succ] at h1; omega) (by simp; omega)
      refine ⟨v', IntKind.u8.wrap (bOr .i64 (bAnd .i64 v 127) 128) :: ex, ?_, ?_, by simp; omega⟩
      · rw [loopO_eq]
        simp only [L_s_PutPrefix_0, dec_true h2, cond_true]
        rw [gA (by simp; omega)]
        simp only [e1]
        simp
      · simp only [more, if_pos h2, List.cons_append, e2]
    · refine ⟨v, [], ?_, by simp only [more, if_neg h2, List.nil_append], by simp⟩
      rw [loopO_eq]
      simp only [L_s_PutPrefix_0, dec_false h2, cond_false, List.append_nil]
def pfx (M F v : Int) : List Int := if v < M then [IntKind.u8.wrap (bOr .i64 F v)] else IntKind.u8.wrap (bOr .i64 F M) :: more 3 (v - M)
theorem pfx_len (M F v : Int) : (pfx M F v).length ≤ 5 := by
  unfold pfx
  split
  · simp
  · have := more_len 3 (v - M); simp; omega
theorem s_pfx (n f M F v : Int) (b : List Int) (h1 : ¬ (IntKind.u64.wrap n < 0)) (h2 : IntKind.i64.wrap (IntKind.i64.wrap (1 * 2 ^ (min (IntKind.u64.wrap n).toNat IntKind.i64.bits)) - 1) = M) (h3 : bAndNot .i64 f M = F) (h5 : 1 ≤ n ∧ n ≤ 8) (h6 : 0 ≤ f ∧ f ≤ 255)
    (hM : 15 ≤ M ∧ M ≤ 127) (hv : 0 ≤ v ∧ v ≤ 16777216) (hb : b.length + 16 ≤ 140737488355328) : P_s_PutPrefix b n f v = some (b ++ pfx M F v, ()) := by
  have a1 : ¬ v > 16777216 := by omega
  have a2 : ¬ v < 0 := by omega
  simp only [P_s_PutPrefix, B_s_PutPrefix, l1In_eq, dec_true h5, dec_true h6, bindO, bindS, Bool.not_true, cond_false, dec_false h1, h2, h3, dec_false a1, dec_false a2, List.nil_append]
  rw [gA (by simp; omega)]
  by_cases hq : v < M
  · rw [dec_true hq, cond_true, gA (by simp; omega), pfx, if_pos hq]
  · rw [dec_false hq, cond_false, gA (by simp; omega), w64 (by omega) (by omega)]
    obtain ⟨v', ex, e1, e2, e3⟩ := more_loop 3 (v - M) (b ++ [IntKind.u8.wrap (bOr .i64 F M)]) (by omega) (by omega) (by simp; omega)
    rw [e1]
    simp only [bindO]
    rw [gA (by simp; omega), pfx, if_neg hq, ← e2]
    simp
theorem i_pfx (n f M F v : Int) (b : List Int) (h1 : ¬ (IntKind.u64.wrap n < 0)) (h2 : IntKind.i64.wrap (IntKind.i64.wrap (1 * 2 ^ (min (IntKind.u64.wrap n).toNat IntKind.i64.bits)) - 1) = M) (h3 : bAnd .i64 f (bAndNot .i64 255 M) = F)
    (hM : 15 ≤ M ∧ M ≤ 127) (hv : 0 ≤ v ∧ v ≤ 16777216) (hb : b.length + 16 ≤ 140737488355328) : P_i_putPrefix b n f v = some (b ++ pfx M F v, ()) := by
  have a1 : ¬ 16777216 < v := by omega
  have a2 : (bif decide (v > 0) then v else 0) = v := by
    by_cases h : v > 0
    · rw [dec_true h, cond_true]
    · rw [dec_false h, cond_false]; omega
  have e0 : L_i_putPrefix_0 = L_s_PutPrefix_0 := by
    funext l
    simp only [L_i_putPrefix_0, L_s_PutPrefix_0, bOr_comm .i64 128]
  simp only [P_i_putPrefix, B_i_putPrefix, bindO, dec_false h1, cond_false, h2, h3, dec_false a1, a2, e0]
  by_cases hq : v < M
  · rw [dec_true hq, cond_true, gA (by simp; omega), pfx, if_pos hq]
  · rw [dec_false hq, cond_false, gA (by simp; omega), w64 (by omega) (by omega)]
    obtain ⟨v', ex, e1, e2, e3⟩ := more_loop 3 (v - M) (b ++ [IntKind.u8.wrap (bOr .i64 F M)]) (by omega) (by omega) (by simp; omega)
    rw [e1]
    simp only [bindO]
    rw [gA (by simp; omega), pfx, if_neg hq, ← e2]
    simp
/-- The four kinds of prefixes. -/
def Pf (n f M : Int) : Prop := ∀ (v : Int) (b : List Int), 0 ≤ v → v ≤ 16777216 → b.length + 16 ≤ 140737488355328 → P_s_PutPrefix b n f v = some (b ++ pfx M f v, ()) ∧ P_i_putPrefix b n f v = some (b ++ pfx M f v, ())
theorem pf_7_128 : Pf 7 128 127 := fun v b h0 h1 hb => ⟨s_pfx 7 128 127 128 v b (by decide) (by rfl) (by rfl) (by omega) (by omega) (by omega) ⟨h0, h1⟩ hb, i_pfx 7 128 127 128 v b (by decide) (by rfl) (by rfl) (by omega) ⟨h0, h1⟩ hb⟩
theorem pf_7_0 : Pf 7 0 127 := fun v b h0 h1 hb => ⟨s_pfx 7 0 127 0 v b (by decide) (by rfl) (by rfl) (by omega) (by omega) (by omega) ⟨h0, h1⟩ hb, i_pfx 7 0 127 0 v b (by decide) (by rfl) (by rfl) (by omega) ⟨h0, h1⟩ hb⟩
theorem pf_6_64 : Pf 6 64 63 := fun v b h0 h1 hb => ⟨s_pfx 6 64 63 64 v b (by decide) (by rfl) (by rfl) (by omega) (by omega) (by omega) ⟨h0, h1⟩ hb, i_pfx 6 64 63 64 v b (by decide) (by rfl) (by rfl) (by omega) ⟨h0, h1⟩ hb⟩
theorem pf_4_16 : Pf 4 16 15 := fun v b h0 h1 hb => ⟨s_pfx 4 16 15 16 v b (by decide) (by rfl) (by rfl) (by omega) (by omega) (by omega) ⟨h0, h1⟩ hb, i_pfx 4 16 15 16 v b (by decide) (by rfl) (by rfl) (by omega) ⟨h0, h1⟩ hb⟩
set_option maxRecDepth 100000
def leA (s : ByteArray) (k : Nat) : Int := lensT.getD (bt s k).toNat 0
def coA (s : ByteArray) (k : Nat) : Int := codesT.getD (bt s k).toNat 0
theorem bt_nat (s : ByteArray) (k : Int) : (bt s k).toNat < 257 := by have := bt_lo s k; have := bt_hi s k; omega
theorem leA_rng (s : ByteArray) (k : Nat) : 5 ≤ leA s k ∧ leA s k ≤ 30 := by
  have h := List.all_eq_true.1 lensT_all (leA s k) (by
    unfold leA
    rw [List.getD_eq_getElem?_getD, List.getElem?_eq_getElem (by rw [lensT_len]; exact bt_nat s k)]
    exact List.getElem_mem _)
  simpa using h
theorem rd_len (s : ByteArray) (k : Nat) : rd (.int .i64) lensT (bt s k) = leA s k := by
  simp [rd, zd, leA]
theorem rd_cod (s : ByteArray) (k : Nat) : rd (.int .i64) codesT (bt s k) = coA s k := by
  simp [rd, zd, coA]
theorem rd_zipX (s : ByteArray) (k : Nat) (xs : List (Int × Int)) (hx : xs = codesT.zip lensT) : rd kResp xs (bt s k) = (coA s k, leA s k) := by
  subst hx
  have h1 : (bt s k).toNat < codesT.length := by rw [codesT_len]; exact bt_nat s k
  have h2 : (bt s k).toNat < lensT.length := by rw [lensT_len]; exact bt_nat s k
  have h3 : (bt s k).toNat < (codesT.zip lensT).length := by rw [List.length_zip]; omega
  unfold rd
  rw [List.getD_eq_getElem?_getD, List.getElem?_eq_getElem h3]
  simp [coA, leA, List.getD_eq_getElem?_getD, List.getElem?_eq_getElem h1, List.getElem?_eq_getElem h2]
/-- What goes out of the bits that wait. -/
def dr : Nat → Int → Int → Int × Int × List Int
  | 0, v, n => (v, n, [])
  | k + 1, v, n => if n ≥ 8 then ((dr k (bAnd .i64 v (IntKind.i64.wrap ((IntKind.i64.wrap (1 * 2 ^ (min (IntKind.u64.wrap (n - 8)).toNat IntKind.i64.bits))) - 1))) (n - 8)).1, (dr k (bAnd .i64 v (IntKind.i64.wrap ((IntKind.i64.wrap (1 * 2 ^ (min (IntKind.u64.wrap (n - 8)).toNat IntKind.i64.bits))) - 1))) (n - 8)).2.1,
      IntKind.u8.wrap (v.fdiv (2 ^ (min (IntKind.u64.wrap (n - 8)).toNat IntKind.i64.bits))) :: (dr k (bAnd .i64 v (IntKind.i64.wrap ((IntKind.i64.wrap (1 * 2 ^ (min (IntKind.u64.wrap (n - 8)).toNat IntKind.i64.bits))) - 1))) (n - 8)).2.2) else (v, n, [])
theorem dr_n : ∀ (k : Nat) (v n : Int), 0 ≤ n → n < 8 * (k + 1) → (dr k v n).2.1 = n % 8 ∧ ((dr k v n).2.2.length : Int) = n / 8
  | 0, v, n, h0, h1 => ⟨by simp only [dr]; omega, by simp only [dr, List.length_nil]; omega⟩
  | k + 1, v, n, h0, h1 => by
    by_cases h : n ≥ 8
    · have := dr_n k (bAnd .i64 v (IntKind.i64.wrap ((IntKind.i64.wrap (1 * 2 ^ (min (IntKind.u64.wrap (n - 8)).toNat IntKind.i64.bits))) - 1))) (n - 8) (by omega) (by omega)
      simp only [dr, if_pos h, List.length_cons]
      omega
    · simp only [dr, if_neg h, List.length_nil]
      omega
theorem dr_loop (l0 : Int × Int × Int × List Int × Unit) : ∀ (k : Nat) (v n : Int) (o : List Int), 0 ≤ n → n < 8 * (k + 1) → n < 1000 → o.length + k + 1 ≤ 140737488355328 →
    loopO (L_s_Huff_0 l0) (v, n, o, ()) = some (.inl ((dr k v n).1, (dr k v n).2.1, IntKind.i64.wrap (l0.2.2.1 + 1), o ++ (dr k v n).2.2, ()))
  | 0, v, n, o, h0, h1, h2, hb => by
    have h : ¬ n ≥ 8 := by omega
    rw [loopO_eq]
    simp only [L_s_Huff_0, dec_false h, cond_false, dr, List.append_nil]
  | k + 1, v, n, o, h0, h1, h2, hb => by
    rw [loopO_eq]
    by_cases h : n ≥ 8
    · have e1 : IntKind.i64.wrap (n - 8) = n - 8 := w64 (by omega) (by omega)
      simp only [L_s_Huff_0, dec_true h, cond_true, e1, dec_false (u64_nonneg _), cond_false]
      rw [gA (by simp; omega)]
      simp only []
      rw [dr_loop l0 k _ (n - 8) _ (by omega) (by omega) (by omega) (by simp; omega)]
      simp only [dr, if_pos h, List.append_assoc, List.singleton_append, List.cons_append, List.nil_append]
    · simp only [L_s_Huff_0, dec_false h, cond_false, dr, if_neg h, List.append_nil]
theorem dr_loopI (l0 : Int × Int × Int × List Int × Unit) : L_i_huff_0 l0 = L_s_Huff_0 l0 := rfl
/-- The code of the first k bytes. -/
def hst (s : ByteArray) : Nat → Int × Int × List Int
  | 0 => (0, 0, [])
  | k + 1 => let d := dr 5 (bOr .i64 (IntKind.i64.wrap ((hst s k).1 * 2 ^ (min (IntKind.u64.wrap (leA s k)).toNat IntKind.i64.bits))) (coA s k)) ((hst s k).2.1 + leA s k); (d.1, d.2.1, (hst s k).2.2 ++ d.2.2)
def bits (s : ByteArray) : Nat → Int
  | 0 => 0
  | k + 1 => bits s k + leA s k
theorem bits_rng (s : ByteArray) : ∀ k : Nat, 0 ≤ bits s k ∧ bits s k ≤ 30 * (k : Int)
  | 0 => ⟨by simp [bits], by simp [bits]⟩
  | k + 1 => by
    have := bits_rng s k; have := leA_rng s k
    simp only [bits]; omega
theorem hst_n (s : ByteArray) : ∀ k : Nat, (hst s k).2.1 = bits s k % 8 ∧ ((hst s k).2.2.length : Int) = bits s k / 8
  | 0 => ⟨by simp [hst, bits], by simp [hst, bits]⟩
  | k + 1 => by
    have h1 := hst_n s k
    have h2 := leA_rng s k
    have h3 := bits_rng s k
    have h4 := dr_n 5 (bOr .i64 (IntKind.i64.wrap ((hst s k).1 * 2 ^ (min (IntKind.u64.wrap (leA s k)).toNat IntKind.i64.bits))) (coA s k)) ((hst s k).2.1 + leA s k) (by omega) (by omega)
    simp only [hst, bits, List.length_append]
    omega
theorem hst_out (s : ByteArray) (k : Nat) (h : k ≤ 1000000000) : (hst s k).2.2.length ≤ 4000000000 := by
  have := hst_n s k; have := bits_rng s k; omega
theorem huff_step (s : ByteArray) (a : List Int) (ha : a.length ≤ 1000000000000) (hs : s.size ≤ 1000000000) (k : Nat) (hk : k < s.size) :
    L_s_Huff_1 s (lensT, ()) (codesT, ()) ((hst s k).1, (hst s k).2.1, (k : Int), a ++ (hst s k).2.2, ()) = some (.inl ((hst s (k + 1)).1, (hst s (k + 1)).2.1, ((k + 1 : Nat) : Int), a ++ (hst s (k + 1)).2.2, ())) := by
  have h1 : (k : Int) < (s.size : Int) := by omega
  have h2 : (0 : Int) ≤ (k : Int) := by omega
  have h3 := bt_lo s k
  have h4 : bt s k < (lensT.length : Int) := by rw [lensT_len]; have := bt_hi s k; omega
  have h5 : bt s k < (codesT.length : Int) := by rw [codesT_len]; have := bt_hi s k; omega
  have h6 := leA_rng s k
  have h7 := hst_n s k
  have h8 := hst_out s k (by omega)
  simp only [L_s_Huff_1, dec_true h1, dec_true h2, dec_true h3, dec_true h4, dec_true h5, cond_true, rd_len, rd_cod, dec_false (u64_nonneg _), cond_false]
  rw [w64 (n := (hst s k).2.1 + leA s k) (by omega) (by omega), dr_loop _ 5 _ _ _ (by omega) (by omega) (by omega) (by simp; omega), w64 (n := (k : Int) + 1) (by omega) (by omega)]
  simp only [hst, List.append_assoc]
  rfl
theorem huff_stepI (s : ByteArray) (l : Int × Int × Int × List Int × Unit) : L_i_huff_1 s (codesT.zip lensT) l = L_s_Huff_1 s (lensT, ()) (codesT, ()) l := by
  obtain ⟨v, n, k, o, u⟩ := l
  simp only [L_i_huff_1, L_s_Huff_1]
  by_cases h1 : k < (s.size : Int)
  · by_cases h2 : 0 ≤ k
    · obtain ⟨k, rfl⟩ := Int.eq_ofNat_of_zero_le h2
      have h3 := bt_lo s k
      have h4 : bt s k < (lensT.length : Int) := by rw [lensT_len]; have := bt_hi s k; omega
      have h5 : bt s k < (codesT.length : Int) := by rw [codesT_len]; have := bt_hi s k; omega
      have h6 : bt s k < ((codesT.zip lensT).length : Int) := by rw [List.length_zip, codesT_len, lensT_len]; have := bt_hi s k; omega
      have h7 : 0 < (codesT.zip lensT).length := by rw [List.length_zip, codesT_len, lensT_len]; omega
      simp only [dec_true h1, dec_true h2, dec_true h3, dec_true h4, dec_true h5, dec_true h6, dec_true h7, cond_true, rd_len, rd_cod, rd_zipX s k (codesT.zip lensT) rfl, dr_loopI]
    · simp only [dec_false h2, cond_false]
  · simp only [dec_false h1, cond_false]
def huffB (s : ByteArray) : List Int :=
  if (hst s s.size).2.1 > 0 then (hst s s.size).2.2 ++ [IntKind.u8.wrap (bOr .i64 (IntKind.i64.wrap ((hst s s.size).1 * 2 ^ (min (IntKind.u64.wrap (IntKind.i64.wrap (8 - (hst s s.size).2.1))).toNat IntKind.i64.bits))) (IntKind.i64.wrap ((IntKind.i64.wrap (1 * 2 ^ (min (IntKind.u64.wrap (IntKind.i64.wrap (8 - (hst s s.size).2.1))).toNat IntKind.i64.bits))) - 1)))] else (hst s s.size).2.2
theorem huffB_len (s : ByteArray) : ((huffB s).length : Int) = (bits s s.size + 7) / 8 := by
  have h := hst_n s s.size
  have h2 := bits_rng s s.size
  unfold huffB
  split
  · simp only [List.length_append, List.length_singleton]
    omega
  · omega
theorem huff_all (s : ByteArray) (a : List Int) (ha : a.length ≤ 1000000000000) (hs : s.size ≤ 1000000000) :
    (bindO (loopO (L_s_Huff_1 s (lensT, ()) (codesT, ())) (0, 0, 0, a, ())) fun (m2 : Int × Int × List Int × Unit) => bif (decide (m2.2.1 > 0)) then bif decide ((IntKind.u64.wrap (IntKind.i64.wrap (8 - m2.2.1))) < 0) then none else bif decide ((IntKind.u64.wrap (IntKind.i64.wrap (8 - m2.2.1))) < 0) then none else bif decide (m2.2.2.1.length + ([(IntKind.u8.wrap (bOr .i64 (IntKind.i64.wrap (m2.1 * 2 ^ (min (IntKind.u64.wrap (IntKind.i64.wrap (8 - m2.2.1))).toNat IntKind.i64.bits))) (IntKind.i64.wrap ((IntKind.i64.wrap (1 * 2 ^ (min (IntKind.u64.wrap (IntKind.i64.wrap (8 - m2.2.1))).toNat IntKind.i64.bits))) - 1))))] : List Int).length ≤ 9223372036854775807) then bif decide ((m2.2.2.1.length + ([(IntKind.u8.wrap (bOr .i64 (IntKind.i64.wrap (m2.1 * 2 ^ (min (IntKind.u64.wrap (IntKind.i64.wrap (8 - m2.2.1))).toNat IntKind.i64.bits))) (IntKind.i64.wrap ((IntKind.i64.wrap (1 * 2 ^ (min (IntKind.u64.wrap (IntKind.i64.wrap (8 - m2.2.1))).toNat IntKind.i64.bits))) - 1))))] : List Int).length) * 1 ≤ 140737488355328) then some ((m2.2.2.1 ++ [(IntKind.u8.wrap (bOr .i64 (IntKind.i64.wrap (m2.1 * 2 ^ (min (IntKind.u64.wrap (IntKind.i64.wrap (8 - m2.2.1))).toNat IntKind.i64.bits))) (IntKind.i64.wrap ((IntKind.i64.wrap (1 * 2 ^ (min (IntKind.u64.wrap (IntKind.i64.wrap (8 - m2.2.1))).toNat IntKind.i64.bits))) - 1))))]), ()) else none else none else some (m2.2.2.1, ())) = some (a ++ huffB s, ()) := by
  have h1 : loopO (L_s_Huff_1 s (lensT, ()) (codesT, ())) (0, 0, 0, a, ()) = some ((hst s s.size).1, (hst s s.size).2.1, a ++ (hst s s.size).2.2, ()) := by
    have := loopO_count (L_s_Huff_1 s (lensT, ()) (codesT, ())) (fun k => ((hst s k).1, (hst s k).2.1, (k : Int), a ++ (hst s k).2.2, ())) s.size ((hst s s.size).1, (hst s s.size).2.1, a ++ (hst s s.size).2.2, ()) (fun k hk => huff_step s a ha hs k hk) (by
      have h : ¬ ((s.size : Nat) : Int) < (s.size : Int) := by omega
      simp only [L_s_Huff_1, dec_false h, cond_false])
    simpa [hst] using this
  have h8 := hst_out s s.size (by omega)
  rw [h1]
  simp only [bindO, dec_false (u64_nonneg _), cond_false]
  by_cases h : (hst s s.size).2.1 > 0
  · rw [dec_true h, cond_true, gA (by simp; omega), huffB, if_pos h]
    simp
  · rw [dec_false h, cond_false, huffB, if_neg h]
theorem s_Huff_eq (s : ByteArray) (hs : s.size ≤ 1000000000) : P_s_Huff s = some (huffB s, ()) := by
  have := huff_all s [] (by simp) hs
  simp only [List.nil_append] at this
  simp only [P_s_Huff, B_s_Huff, s_l3Lens_eq, s_l3Codes_eq, bindO]
  exact this
theorem i_huff_eq (s : ByteArray) (a : List Int) (ha : a.length ≤ 1000000000000) (hs : s.size ≤ 1000000000) : P_i_huff (codesT.zip lensT) a s = some (a ++ huffB s, ()) := by
  simp only [P_i_huff, B_i_huff]
  rw [show L_i_huff_1 s (codesT.zip lensT) = L_s_Huff_1 s (lensT, ()) (codesT, ()) from funext fun l => huff_stepI s l]
  exact huff_all s a ha hs
theorem i_huffLen_eq (s : ByteArray) (hs : s.size ≤ 1000000000) : P_i_huffLen (codesT.zip lensT) s = some (((huffB s).length : Int), ()) := by
  simp only [P_i_huffLen, B_i_huffLen]
  have h1 : loopO (L_i_huffLen_0 s (codesT.zip lensT)) (0, 0, ()) = some (bits s s.size, ()) := by
    refine loopO_count (L_i_huffLen_0 s (codesT.zip lensT)) (fun k => (bits s k, (k : Int), ())) s.size _ (fun k hk => ?_) ?_
    · have h1 : (k : Int) < (s.size : Int) := by omega
      have h2 : (0 : Int) ≤ (k : Int) := by omega
      have h3 := bt_lo s k
      have h6 : bt s k < ((codesT.zip lensT).length : Int) := by rw [List.length_zip, codesT_len, lensT_len]; have := bt_hi s k; omega
      have h7 : 0 < (codesT.zip lensT).length := by rw [List.length_zip, codesT_len, lensT_len]; omega
      have h8 := bits_rng s k
      have h9 := leA_rng s k
      simp only [L_i_huffLen_0, dec_true h1, dec_true h2, dec_true h3, dec_true h6, dec_true h7, cond_true, rd_zipX s k (codesT.zip lensT) rfl]
      rw [w64 (by omega) (by omega), w64 (by omega) (by omega)]
      rfl
    · have h : ¬ ((s.size : Nat) : Int) < (s.size : Int) := by omega
      simp only [L_i_huffLen_0, dec_false h, cond_false]
  rw [h1]
  have h2 := bits_rng s s.size
  simp only [bindO]
  rw [w64 (n := bits s s.size + 7) (by omega) (by omega), huffB_len, Int.tdiv_eq_ediv_of_nonneg (by omega), w64 (by omega) (by omega)]
/-- A text as it is sent. -/
def strP (s : ByteArray) : List Int := if (huffB s).length < s.size then pfx 127 128 ((huffB s).length : Int) ++ huffB s else pfx 127 0 (s.size : Int) ++ bytesOf s
theorem strP_len (s : ByteArray) : (strP s).length ≤ s.size + 5 := by
  unfold strP
  split
  · have := pfx_len 127 128 ((huffB s).length : Int); simp only [List.length_append]; omega
  · have := pfx_len 127 0 (s.size : Int); simp only [List.length_append, bytesOf_length]; omega
theorem s_PutString_eq (s : ByteArray) (a : List Int) (ha : a.length ≤ 100000000000) (hs : s.size ≤ 16777216) : P_s_PutString a s = some (a ++ strP s, ()) := by
  simp only [P_s_PutString, B_s_PutString, s_Huff_eq s (by omega), bindO]
  by_cases h : (huffB s).length < s.size
  · have h' : ((huffB s).length : Int) < (s.size : Int) := by omega
    have hp := pfx_len 127 128 ((huffB s).length : Int)
    rw [dec_true h', cond_true, (pf_7_128 ((huffB s).length : Int) a (by omega) (by omega) (by omega)).1]
    simp only []
    rw [gA (by simp only [List.length_append]; omega), strP, if_pos h, List.append_assoc]
  · have h' : ¬ ((huffB s).length : Int) < (s.size : Int) := by omega
    have hp := pfx_len 127 0 (s.size : Int)
    rw [dec_false h', cond_false, (pf_7_0 (s.size : Int) a (by omega) (by omega) (by omega)).1]
    simp only []
    rw [dec_true (by simp only [List.length_append]; omega), cond_true, strP, if_neg h, List.append_assoc]
theorem i_putString_eq (s : ByteArray) (a : List Int) (ha : a.length ≤ 100000000000) (hs : s.size ≤ 16777216) : P_i_putString a s = some (a ++ strP s, ()) := by
  simp only [P_i_putString, B_i_putString, i_codesOf_eq, i_huffLen_eq s (by omega), bindO]
  by_cases h : (huffB s).length < s.size
  · have h' : ((huffB s).length : Int) < (s.size : Int) := by omega
    have hp := pfx_len 127 128 ((huffB s).length : Int)
    rw [dec_true h', cond_true, (pf_7_128 ((huffB s).length : Int) a (by omega) (by omega) (by omega)).2]
    simp only []
    rw [i_huff_eq s _ (by simp only [List.length_append]; omega) (by omega)]
    simp only [strP, if_pos h, List.append_assoc]
  · have h' : ¬ ((huffB s).length : Int) < (s.size : Int) := by omega
    have hp := pfx_len 127 0 (s.size : Int)
    rw [dec_false h', cond_false, (pf_7_0 (s.size : Int) a (by omega) (by omega) (by omega)).2]
    simp only []
    rw [dec_true (by simp only [List.length_append]; omega), cond_true, strP, if_neg h, List.append_assoc]
set_option maxRecDepth 100000
def fstS : ByteArray := ⟨#[58, 97, 117, 116, 104, 111, 114, 105, 116, 121, 124, 58, 109, 101, 116, 104, 111, 100, 61, 71, 69, 84, 124, 58, 109, 101, 116, 104, 111, 100, 61, 80, 79, 83, 84, 124, 58, 112, 97, 116, 104, 61, 47, 124, 58, 112, 97, 116, 104, 61, 47, 105, 110, 100, 101, 120, 46, 104, 116, 109, 108, 124, 58, 115, 99, 104, 101, 109, 101, 61, 104, 116, 116, 112, 124, 58, 115, 99, 104, 101, 109, 101, 61, 104, 116, 116, 112, 115, 124, 58, 115, 116, 97, 116, 117, 115, 61, 50, 48, 48, 124, 58, 115, 116, 97, 116, 117, 115, 61, 50, 48, 52, 124, 58, 115, 116, 97, 116, 117, 115, 61, 50, 48, 54, 124, 58, 115, 116, 97, 116, 117, 115, 61, 51, 48, 52, 124, 58, 115, 116, 97, 116, 117, 115, 61, 52, 48, 48, 124, 58, 115, 116, 97, 116, 117, 115, 61, 52, 48, 52, 124, 58, 115, 116, 97, 116, 117, 115, 61, 53, 48, 48, 124, 97, 99, 99, 101, 112, 116, 45, 99, 104, 97, 114, 115, 101, 116, 124, 97, 99, 99, 101, 112, 116, 45, 101, 110, 99, 111, 100, 105, 110, 103, 61, 103, 122, 105, 112, 44, 32, 100, 101, 102, 108, 97, 116, 101, 124, 97, 99, 99, 101, 112, 116, 45, 108, 97, 110, 103, 117, 97, 103, 101, 124, 97, 99, 99, 101, 112, 116, 45, 114, 97, 110, 103, 101, 115, 124, 97, 99, 99, 101, 112, 116, 124, 97, 99, 99, 101, 115, 115, 45, 99, 111, 110, 116, 114, 111, 108, 45, 97, 108, 108, 111, 119, 45, 111, 114, 105, 103, 105, 110, 124, 97, 103, 101, 124, 97, 108, 108, 111, 119, 124, 97, 117, 116, 104, 111, 114, 105, 122, 97, 116, 105, 111, 110, 124, 99, 97, 99, 104, 101, 45, 99, 111, 110, 116, 114, 111, 108, 124, 99, 111, 110, 116, 101, 110, 116, 45, 100, 105, 115, 112, 111, 115, 105, 116, 105, 111, 110, 124, 99, 111, 110, 116, 101, 110, 116, 45, 101, 110, 99, 111, 100, 105, 110, 103, 124, 99, 111, 110, 116, 101, 110, 116, 45, 108, 97, 110, 103, 117, 97, 103, 101, 124, 99, 111, 110, 116, 101, 110, 116, 45, 108, 101, 110, 103, 116, 104, 124, 99, 111, 110, 116, 101, 110, 116, 45, 108, 111, 99, 97, 116, 105, 111, 110, 124, 99, 111, 110, 116, 101, 110, 116, 45, 114, 97, 110, 103, 101, 124, 99, 111, 110, 116, 101, 110, 116, 45, 116, 121, 112, 101, 124, 99, 111, 111, 107, 105, 101, 124, 100, 97, 116, 101, 124, 101, 116, 97, 103, 124, 101, 120, 112, 101, 99, 116, 124, 101, 120, 112, 105, 114, 101, 115, 124, 102, 114, 111, 109, 124, 104, 111, 115, 116, 124, 105, 102, 45, 109, 97, 116, 99, 104, 124, 105, 102, 45, 109, 111, 100, 105, 102, 105, 101, 100, 45, 115, 105, 110, 99, 101, 124, 105, 102, 45, 110, 111, 110, 101, 45, 109, 97, 116, 99, 104, 124, 105, 102, 45, 114, 97, 110, 103, 101, 124, 105, 102, 45, 117, 110, 109, 111, 100, 105, 102, 105, 101, 100, 45, 115, 105, 110, 99, 101, 124, 108, 97, 115, 116, 45, 109, 111, 100, 105, 102, 105, 101, 100, 124, 108, 105, 110, 107, 124, 108, 111, 99, 97, 116, 105, 111, 110, 124, 109, 97, 120, 45, 102, 111, 114, 119, 97, 114, 100, 115, 124, 112, 114, 111, 120, 121, 45, 97, 117, 116, 104, 101, 110, 116, 105, 99, 97, 116, 101, 124, 112, 114, 111, 120, 121, 45, 97, 117, 116, 104, 111, 114, 105, 122, 97, 116, 105, 111, 110, 124, 114, 97, 110, 103, 101, 124, 114, 101, 102, 101, 114, 101, 114, 124, 114, 101, 102, 114, 101, 115, 104, 124, 114, 101, 116, 114, 121, 45, 97, 102, 116, 101, 114, 124, 115, 101, 114, 118, 101, 114, 124, 115, 101, 116, 45, 99, 111, 111, 107, 105, 101, 124, 115, 116, 114, 105, 99, 116, 45, 116, 114, 97, 110, 115, 112, 111, 114, 116, 45, 115, 101, 99, 117, 114, 105, 116, 121, 124, 116, 114, 97, 110, 115, 102, 101, 114, 45, 101, 110, 99, 111, 100, 105, 110, 103, 124, 117, 115, 101, 114, 45, 97, 103, 101, 110, 116, 124, 118, 97, 114, 121, 124, 118, 105, 97, 124, 119, 119, 119, 45, 97, 117, 116, 104, 101, 110, 116, 105, 99, 97, 116, 101]⟩
noncomputable def firstT : List TField := match P_s_l4First with
  | some (x, _) => x
  | none => []
theorem s_l4First_eq : P_s_l4First = some (firstT, ()) := rfl
theorem firstT_len : firstT.length = 61 := rfl
def fstP : List (List UInt8) := Lib.splitK [124] 0 (Lib.count fstS.data.toList [124]) fstS.data.toList
theorem fstP_cut : (fstP.map fun x => ((Lib.cut x [61]).1, (Lib.cut x [61]).2.1)) = firstT.map fun f => (f.1.data.toList, f.2.data.toList) := by kernel_rfl
theorem fstP_sz : (fstP.all fun x => Nat.ble x.length 100) = true := by kernel_rfl
theorem fstS_split : (Lib.splitB ⟨#[124]⟩ 0 (Lib.countB fstS ⟨#[124]⟩) fstS).map (·.data.toList) = fstP := by
  rw [Lib.splitB_data]
  rfl
theorem fstS_sz : fstS.size < 4294967281 := by
  have : Nat.ble (fstS.size + 1) 4294967281 = true := by kernel_rfl
  exact Nat.le_of_ble_eq_true this
theorem loopO_inl {α β : Type} {f : α → Option (α ⊕ β)} {x y : α} (h : f x = some (.inl y)) : loopO f x = loopO f y := by rw [loopO_eq, h]
theorem ba_of {l : List UInt8} {b : ByteArray} (h : l = b.data.toList) : (⟨l.toArray⟩ : ByteArray) = b := by
  subst h
  simp
theorem first_gen (s : ByteArray) (P : List (List UInt8)) (F : List TField) (hs : s.size < 4294967281) (h0 : (Lib.splitB ⟨#[124]⟩ 0 (Lib.countB s ⟨#[124]⟩) s).map (·.data.toList) = P)
    (hP : (P.map fun x => ((Lib.cut x [61]).1, (Lib.cut x [61]).2.1)) = F.map fun f => (f.1.data.toList, f.2.data.toList)) (hz : (P.all fun x => Nat.ble x.length 100) = true) :
    ∃ c : List ByteArray, splitFn s ⟨#[124]⟩ = some (c, ()) ∧ c.length = F.length ∧ ∀ k (h : k < c.length) (h2 : k < F.length), ∃ b, cutFn c[k] ⟨#[61]⟩ = some (F[k].1, F[k].2, b, ()) := by
  have h1 : (decide (s.size < 4294967281) && decide (1 ≤ (⟨#[124]⟩ : ByteArray).size)) = true := by
    rw [dec_true hs]; rfl
  refine ⟨_, by simp only [splitFn, h1, cond_true]; rfl, ?_, fun k hk hk3 => ?_⟩
  · have := congrArg List.length h0
    rw [List.length_map] at this
    rw [this]
    have h2 := congrArg List.length hP
    rw [List.length_map, List.length_map] at h2
    exact h2
  · generalize hc : Lib.splitB ⟨#[124]⟩ 0 (Lib.countB s ⟨#[124]⟩) s = c at *
    have e := h0
    have hk2 : k < P.length := by rw [← e, List.length_map]; exact hk
    have e1 : (c[k]).data.toList = P[k] := by
      have : (c.map (·.data.toList))[k]? = P[k]? := by rw [e]
      rw [List.getElem?_map, List.getElem?_eq_getElem hk, List.getElem?_eq_getElem hk2] at this
      simpa using this
    have e2 : ((Lib.cut P[k] [61]).1, (Lib.cut P[k] [61]).2.1) = (F[k].1.data.toList, F[k].2.data.toList) := by
      have : (P.map fun x => ((Lib.cut x [61]).1, (Lib.cut x [61]).2.1))[k]? = (F.map fun f => (f.1.data.toList, f.2.data.toList))[k]? := by rw [hP]
      rw [List.getElem?_map, List.getElem?_eq_getElem hk2, List.getElem?_map, List.getElem?_eq_getElem hk3] at this
      simpa only [Option.map_some, Option.some.injEq] using this
    have e3 : (c[k]).size ≤ 100 := by
      have h4 := List.all_eq_true.1 hz P[k] (List.getElem_mem hk2)
      have h5 := Nat.le_of_ble_eq_true h4
      rw [← e1] at h5
      exact h5
    refine ⟨(Lib.cut P[k] [61]).2.2, ?_⟩
    have e4 : (c[k]).size < 4294967281 := by omega
    have e5 : (⟨#[61]⟩ : ByteArray).data.toList = [61] := rfl
    simp only [cutFn, dec_true e4, cond_true, e1, e5]
    rw [ba_of (congrArg Prod.fst e2), ba_of (congrArg Prod.snd e2)]
theorem i_firstFields_eq : P_i_firstFields = some (firstT, ()) := by
  obtain ⟨c, hc, hcl, hca⟩ := first_gen fstS fstP firstT fstS_sz fstS_split fstP_cut fstP_sz
  have e0 : P_i_firstFields = bindO (splitFn fstS ⟨#[124]⟩) fun c7 => loopO (L_i_firstFields_0 cutFn c7) (0, [], ()) := rfl
  rw [e0, hc]
  simp only [bindO]
  have hF := firstT_len
  generalize firstT = F at *
  refine (loopO_count (L_i_firstFields_0 cutFn (c, ())) (fun k => ((k : Int), F.take k, ())) 61 (F, ()) (fun k hk => ?_) ?_)
  · have h1 : (k : Int) < (c.length : Int) := by omega
    have h2 : (0 : Int) ≤ (k : Int) := by omega
    obtain ⟨b, hb⟩ := hca k (by omega) (by omega)
    have h6 : rd .str c (k : Int) = c[k]'(by omega) := rd_nat (k := .str) (by omega)
    simp only [L_i_firstFields_0, dec_true h1, dec_true h2, cond_true, h6, hb, bindO]
    rw [gA32 (by simp; omega), w64 (by omega) (by omega)]
    have e7 : F.take (k + 1) = F.take k ++ [(F[k]'(by omega))] := by
      rw [List.take_succ_eq_append_getElem (by omega)]
    rw [e7]
    rfl
  · have h1 : ¬ ((61 : Nat) : Int) < (c.length : Int) := by omega
    simp only [L_i_firstFields_0, dec_false h1, cond_false]
    rw [List.take_of_length_le (by omega)]
theorem i_Concat_eq (F T : List TField) (h1 : F.length ≤ 1000000000) (h2 : T.length ≤ 1000000000) : P_slices_Concat_impl_Field_impl_Field [F, T] = some (F ++ T, ()) := by
  have r0 : rd (.sl 150 kField) ([F, T] : List (List TField)) 0 = F := rfl
  have r1 : rd (.sl 150 kField) ([F, T] : List (List TField)) 1 = T := rfl
  have hl : (([F, T] : List (List TField)).length : Int) = 2 := rfl
  have d0 : decide ((0 : Int) < 2) = true := rfl
  have d1 : decide ((0 : Int) ≤ 0) = true := rfl
  have d2 : decide ((1 : Int) < 2) = true := rfl
  have d3 : decide ((0 : Int) ≤ 1) = true := rfl
  have a1 : loopO (L_slices_Concat_impl_Field_impl_Field_0 [F, T]) (0, 0, ()) = some ((F.length : Int) + T.length, ()) := by
    rw [loopO_inl (y := ((F.length : Int), 1, ())) (by
      simp only [L_slices_Concat_impl_Field_impl_Field_0, hl, r0, d0, d1, cond_true, Int.zero_add]
      rw [w64 (n := (F.length : Int)) (by omega) (by omega), dec_false (p := (F.length : Int) < 0) (by omega)]
      rfl)]
    rw [loopO_inl (y := ((F.length : Int) + T.length, 2, ())) (by
      simp only [L_slices_Concat_impl_Field_impl_Field_0, hl, r1, d2, d3, cond_true]
      rw [w64 (n := (F.length : Int) + T.length) (by omega) (by omega), dec_false (p := (F.length : Int) + T.length < 0) (by omega)]
      rfl)]
    rw [loopO_eq]
    rfl
  have a2 : growFn ([] : List TField) ((F.length : Int) + T.length) = some ([], ()) := by
    have : (([] : List TField).isEmpty && decide (0 ≤ (F.length : Int) + T.length) && decide ((F.length : Int) + T.length ≤ 1000000000000)) = true := by
      rw [dec_true (by omega), dec_true (by omega)]; rfl
    simp only [growFn, this, cond_true]
  have a3 : loopO (L_slices_Concat_impl_Field_impl_Field_1 [F, T]) (0, [], ()) = some (F ++ T, ()) := by
    rw [loopO_inl (y := (1, F, ())) (by
      simp only [L_slices_Concat_impl_Field_impl_Field_1, hl, r0, d0, d1, cond_true]
      rw [gA32 (by simp; omega)]
      rfl)]
    rw [loopO_inl (y := (2, F ++ T, ())) (by
      simp only [L_slices_Concat_impl_Field_impl_Field_1, hl, r1, d2, d3, cond_true]
      rw [gA32 (by omega)]
      rfl)]
    rw [loopO_eq]
    rfl
  simp only [P_slices_Concat_impl_Field_impl_Field, B_slices_Concat_impl_Field_impl_Field, a1, bindO]
  rw [show P_slices_Grow_impl_Field_impl_Field = growFn from rfl, a2]
  exact a3
/-- The best place so far, and where a field stands. -/
def best (all : List TField) (f : TField) : Nat → Int
  | 0 => 0
  | k + 1 => if best all f k = 0 then (if ((rd kField all (k : Int)).1.toList == f.1.toList) then (k : Int) + 1 else 0) else best all f k
theorem best_rng (all : List TField) (f : TField) : ∀ k : Nat, 0 ≤ best all f k ∧ best all f k ≤ k
  | 0 => ⟨Int.le_refl _, Int.le_refl _⟩
  | k + 1 => by
    have := best_rng all f k
    simp only [best]
    split
    · split <;> omega
    · omega
def exa (all : List TField) (f : TField) (k : Nat) : Bool := !eqB [(rd kField all (k : Int)).1, (rd kField all (k : Int)).2] [f.1, f.2]
def fnd (all : List TField) (f : TField) (k : Nat) : (Int × Unit) ⊕ (Int × Bool × Unit) := if k < all.length then .inr ((k : Int) + 1, true, ()) else .inl (best all f all.length, ())
def findP (all : List TField) (f : TField) : Int × Bool :=
  if firstN (exa all f) 0 all.length < all.length then ((firstN (exa all f) 0 all.length : Int) + 1, true) else (best all f all.length, false)
theorem findP_rng (all : List TField) (f : TField) : 0 ≤ (findP all f).1 ∧ (findP all f).1 ≤ all.length := by
  unfold findP
  split
  · exact ⟨by simp only []; omega, by simp only []; omega⟩
  · exact best_rng all f all.length
theorem i_Find_step (all : List TField) (f : TField) (hl : all.length ≤ 1000000000) (k : Nat) (hk : k < all.length) :
    L_i_FindField_0 (all, ()) f (best all f k, (k : Int), ()) = if exa all f k then some (.inl (best all f (k + 1), ((k + 1 : Nat) : Int), ())) else some (.inr (fnd all f k)) := by
  have h1 : (k : Int) < (all.length : Int) := by omega
  have h2 : (0 : Int) ≤ (k : Int) := by omega
  simp only [L_i_FindField_0, dec_true h1, dec_true h2, cond_true]
  rw [w64 (by omega) (by omega)]
  unfold exa fnd
  cases eqB [(rd kField all (k : Int)).1, (rd kField all (k : Int)).2] [f.1, f.2] with
  | true => simp only [cond_true, Bool.not_true, if_pos hk]; rfl
  | false =>
    simp only [cond_false, Bool.not_false, if_true, best]
    by_cases hb : best all f k = 0
    · simp only [hb, decide_true, cond_true, if_true]
      cases ((rd kField all (k : Int)).1.toList == f.1.toList) <;> simp
    · simp only [dec_false hb, cond_false, if_neg hb]
      rfl
theorem fnd_all (all : List TField) (f : TField) : (bindS (some (fnd all f (firstN (exa all f) 0 all.length))) fun (m1 : Int × Unit) => some (m1.1, false, ())) = some ((findP all f).1, (findP all f).2, ()) := by
  unfold findP fnd
  by_cases h : firstN (exa all f) 0 all.length < all.length
  · simp only [if_pos h, bindS]
  · simp only [if_neg h, bindS]
theorem i_Find_all (all : List TField) (f : TField) (hl : all.length ≤ 1000000000) : (bindS (loopO (L_i_FindField_0 (all, ()) f) (0, 0, ())) fun (m1 : Int × Unit) => some (m1.1, false, ())) = some ((findP all f).1, (findP all f).2, ()) := by
  have := loopO_first (L_i_FindField_0 (all, ()) f) (fun k => (best all f k, (k : Int), ())) all.length (fnd all f) (exa all f) (fun k hk => i_Find_step all f hl k hk) (by
    have h1 : ¬ ((all.length : Nat) : Int) < (all.length : Int) := by omega
    have h2 : ¬ all.length < all.length := by omega
    simp only [L_i_FindField_0, dec_false h1, cond_false, fnd, if_neg h2])
  rw [show ((0 : Int), (0 : Int), ()) = (fun k : Nat => (best all f k, (k : Int), ())) 0 from rfl, this]
  exact fnd_all all f
theorem i_FindField_eq (t : TTable) (f : TField) (h : t.2.length ≤ 900000000) : P_i_FindField t f = some ((findP (firstT ++ t.2) f).1, (findP (firstT ++ t.2) f).2, ()) := by
  have hF := firstT_len
  have := i_Find_all (firstT ++ t.2) f (by rw [List.length_append]; omega)
  simp only [P_i_FindField, B_i_FindField, i_firstFields_eq, bindO, i_Concat_eq firstT t.2 (by omega) (by omega)]
  exact this
theorem rd_appL {F T : List TField} {k : Nat} (h : k < F.length) : rd kField (F ++ T) (k : Int) = rd kField F (k : Int) := by
  unfold rd
  simp only [Int.toNat_natCast, List.getD_eq_getElem?_getD]
  rw [List.getElem?_append_left h]
theorem rd_appR {F T : List TField} {k : Nat} {i : Int} (h : F.length ≤ k) (hi : i = (k : Int) - F.length) : rd kField (F ++ T) (k : Int) = rd kField T i := by
  subst hi
  unfold rd
  rw [show ((k : Int) - F.length).toNat = k - F.length by omega]
  simp only [Int.toNat_natCast, List.getD_eq_getElem?_getD]
  rw [List.getElem?_append_right h]
theorem s_Find_step (t : TTable) (F : List TField) (hF : F.length = 61) (f : TField) (hl : t.2.length ≤ 900000000) (k : Nat) (hk : k < (F ++ t.2).length) :
    L_s_FindField_0 t (F, ()) f (best (F ++ t.2) f k, (k : Int) + 1, ()) = if exa (F ++ t.2) f k then some (.inl (best (F ++ t.2) f (k + 1), ((k + 1 : Nat) : Int) + 1, ())) else some (.inr (fnd (F ++ t.2) f k)) := by
  have hk' := hk
  rw [List.length_append, hF] at hk'
  have h0 : IntKind.i64.wrap (61 + (t.2.length : Int)) = 61 + t.2.length := w64 (by omega) (by omega)
  have h1 : (k : Int) + 1 ≤ 61 + t.2.length := by omega
  have hm : (bif (decide ((k : Int) + 1 ≤ 61)) then bif decide (0 ≤ (IntKind.i64.wrap ((k : Int) + 1 - 1))) then bif decide ((IntKind.i64.wrap ((k : Int) + 1 - 1)) < (F.length : Int)) then some ((rd kField F (IntKind.i64.wrap ((k : Int) + 1 - 1))).1, (rd kField F (IntKind.i64.wrap ((k : Int) + 1 - 1))).2, ()) else none else none else bif decide (0 ≤ (IntKind.i64.wrap ((k : Int) + 1 - 62))) then bif decide ((IntKind.i64.wrap ((k : Int) + 1 - 62)) < (t.2.length : Int)) then some ((rd kField t.2 (IntKind.i64.wrap ((k : Int) + 1 - 62))).1, (rd kField t.2 (IntKind.i64.wrap ((k : Int) + 1 - 62))).2, ()) else none else none)
      = some ((rd kField (F ++ t.2) (k : Int)).1, (rd kField (F ++ t.2) (k : Int)).2, ()) := by
    by_cases h2 : (k : Int) + 1 ≤ 61
    · have e1 : IntKind.i64.wrap ((k : Int) + 1 - 1) = (k : Int) := by rw [w64 (by omega) (by omega)]; omega
      rw [dec_true h2, cond_true, e1, dec_true (by omega), dec_true (by omega), rd_appL (by omega)]
      rfl
    · have e1 : IntKind.i64.wrap ((k : Int) + 1 - 62) = (k : Int) - 61 := by rw [w64 (by omega) (by omega)]; omega
      rw [dec_false h2, cond_false, e1, dec_true (by omega), dec_true (by omega), rd_appR (T := t.2) (i := (k : Int) - 61) (by omega) (by omega)]
      rfl
  simp only [L_s_FindField_0, h0, dec_true h1, cond_true]
  rw [hm]
  simp only [bindO]
  rw [w64 (by omega) (by omega)]
  unfold exa fnd
  cases eqB [(rd kField (F ++ t.2) (k : Int)).1, (rd kField (F ++ t.2) (k : Int)).2] [f.1, f.2] with
  | true => simp only [cond_true, Bool.not_true, if_pos hk]; rfl
  | false =>
    simp only [cond_false, Bool.not_false, if_true, best]
    by_cases hb : best (F ++ t.2) f k = 0
    · simp only [hb, decide_true, cond_true, if_true]
      cases ((rd kField (F ++ t.2) (k : Int)).1.toList == f.1.toList) <;> simp
    · simp only [dec_false hb, cond_false, if_neg hb]
      rfl
theorem s_FindField_eq (t : TTable) (f : TField) (h : t.2.length ≤ 900000000) : P_s_FindField t f = some ((findP (firstT ++ t.2) f).1, (findP (firstT ++ t.2) f).2, ()) := by
  have hF := firstT_len
  simp only [P_s_FindField, B_s_FindField, s_l4First_eq, bindO]
  generalize firstT = F at *
  have := loopO_first (L_s_FindField_0 t (F, ()) f) (fun k => (best (F ++ t.2) f k, (k : Int) + 1, ())) (F ++ t.2).length (fnd (F ++ t.2) f) (exa (F ++ t.2) f) (fun k hk => s_Find_step t F hF f h k hk) (by
    have h0 : IntKind.i64.wrap (61 + (t.2.length : Int)) = 61 + t.2.length := w64 (by omega) (by omega)
    have h1 : ¬ (((F ++ t.2).length : Nat) : Int) + 1 ≤ 61 + t.2.length := by rw [List.length_append]; omega
    have h2 : ¬ (F ++ t.2).length < (F ++ t.2).length := by omega
    simp only [L_s_FindField_0, h0, dec_false h1, cond_false, fnd, if_neg h2])
  rw [show ((0 : Int), (1 : Int), ()) = (fun k : Nat => (best (F ++ t.2) f k, (k : Int) + 1, ())) 0 from rfl, this]
  exact fnd_all (F ++ t.2) f
set_option maxRecDepth 100000
def ofF (f : TField) : Int := (f.1.size : Int) + f.2.size + 32
def szT : List TField → Int
  | [] => 0
  | f :: fs => ofF f + szT fs
theorem ofF_pos (f : TField) : 32 ≤ ofF f := by unfold ofF; omega
theorem szT_len : ∀ fs : List TField, 32 * (fs.length : Int) ≤ szT fs
  | [] => by simp [szT]
  | f :: fs => by
    have := szT_len fs
    have := ofF_pos f
    simp only [szT, List.length_cons]
    omega
theorem szT_app : ∀ a b : List TField, szT (a ++ b) = szT a + szT b
  | [], b => by simp [szT]
  | f :: a, b => by simp only [List.cons_append, szT, szT_app a b]; omega
theorem szN_le (fs : List TField) (i : Nat) : szT (fs.take i) ≤ szT fs := by
  have h := szT_app (fs.take i) (fs.drop i)
  rw [List.take_append_drop] at h
  have := szT_len (fs.drop i)
  omega
theorem szN_mono (fs : List TField) {i j : Nat} (h : i ≤ j) : szT (fs.take i) ≤ szT (fs.take j) := by
  have := szN_le (fs.take j) i
  rw [List.take_take, Nat.min_eq_left h] at this
  exact this
theorem szN_succ (fs : List TField) {i : Nat} (h : i < fs.length) : szT (fs.take (i + 1)) = szT (fs.take i) + ofF fs[i] := by
  rw [List.take_succ_eq_append_getElem h, szT_app]
  simp [szT]
theorem l4Of_eq (f : TField) (h : ofF f ≤ 10000000000000) : P_s_l4Of f = some (ofF f, ()) := by
  unfold ofF at *
  simp only [P_s_l4Of, B_s_l4Of]
  rw [w64 (n := (f.1.size : Int) + f.2.size) (by omega) (by omega), w64 (by omega) (by omega)]
theorem i_sizeOf_eq (f : TField) (h : ofF f ≤ 10000000000000) : P_i_sizeOf f = some (ofF f, ()) := l4Of_eq f h
theorem s_SizeOf_val (m : Int) (fs : List TField) (h : szT fs ≤ 10000000000000) : P_s_SizeOf (m, fs) = some (szT fs, ()) := by
  have hl := szT_len fs
  simp only [P_s_SizeOf, B_s_SizeOf]
  refine loopO_count (L_s_SizeOf_0 P_s_l4Of (m, fs)) (fun i => (szT (fs.take i), (i : Int), ())) fs.length _ (fun i hi => ?_) ?_
  · have h1 : (i : Int) < (fs.length : Int) := by omega
    have h2 : (0 : Int) ≤ (i : Int) := by omega
    have h3 := szN_succ fs hi
    have h4 := szN_le fs (i + 1)
    have h5 := szT_len (fs.take i)
    have h6 : rd kField fs (i : Int) = fs[i] := rd_nat (k := kField) hi
    have h7 := ofF_pos fs[i]
    simp only [L_s_SizeOf_0, dec_true h1, dec_true h2, cond_true, h6]
    rw [l4Of_eq _ (by omega)]
    simp only [bindO]
    rw [w64 (n := szT (fs.take i) + ofF fs[i]) (by omega) (by omega), w64 (by omega) (by omega), h3]
    rfl
  · have h1 : ¬ ((fs.length : Nat) : Int) < (fs.length : Int) := by omega
    simp only [L_s_SizeOf_0, dec_false h1, cond_false]
    rw [List.take_of_length_le (by omega)]
theorem clone_eq (xs : List TField) (h : xs.length ≤ 1000000000) : P_slices_Clone_impl_Field_impl_Field xs = some (xs, ()) := by
  simp only [P_slices_Clone_impl_Field_impl_Field, B_slices_Clone_impl_Field_impl_Field]
  rw [gA32 (by simp; omega)]
  by_cases h0 : 0 < xs.length
  · rw [dec_true h0, cond_true]; rfl
  · rw [dec_false h0, cond_false]
    have : xs = [] := List.length_eq_zero_iff.1 (by omega)
    subst this
    simp [eqO]
theorem l4Copy_eq (t : TTable) (h : t.2.length ≤ 1000000000) : P_s_l4Copy t = some (t, ()) := by
  simp only [P_s_l4Copy, B_s_l4Copy]
  rw [gA32 (by simp; omega)]
  rfl
theorem copyTable_eq (t : TTable) (h : t.2.length ≤ 1000000000) : P_i_copyTable t = some (t, ()) := by
  simp only [P_i_copyTable, B_i_copyTable, clone_eq t.2 h, bindO]
theorem fit_eq (m : Int) (fs : List TField) (hm : 0 ≤ m) (hm2 : m ≤ 1000000) (hs : szT fs ≤ 1000000000) :
    ∃ k, P_i_Table_trim (m, fs) = some ((m, fs.take k), ()) ∧ P_s_l4Fit_r99_0 (m, fs) = some ((m, fs.take k), ()) ∧ szT (fs.take k) ≤ m := by
  have hl := szT_len fs
  obtain ⟨k, hk, ht, hf, he⟩ := loopO_find (L_i_Table_trim_0 P_i_sizeOf P_slices_Clone_impl_Field_impl_Field (m, fs)) (fun i => (m - szT (fs.take i), (i : Int), ())) fs.length (fun i => ((m, fs.take i), ())) (fun i => decide (0 ≤ m - szT (fs.take (i + 1)))) (fun i hi => by
    have h1 : (i : Int) < (fs.length : Int) := by omega
    have h2 : (0 : Int) ≤ (i : Int) := by omega
    have h22 : (i : Int) ≤ (fs.length : Int) := by omega
    have h3 := szN_succ fs hi
    have h4 := szN_le fs (i + 1)
    have h5 := szT_len (fs.take i)
    have h6 : rd kField fs (i : Int) = fs[i] := rd_nat (k := kField) hi
    have h7 := ofF_pos fs[i]
    have h8 := szT_len (fs.take (i + 1))
    simp only [L_i_Table_trim_0, dec_true h1, dec_true h2, dec_true h22, cond_true, h6, List.drop_zero, Int.toNat_natCast]
    rw [i_sizeOf_eq _ (by omega), clone_eq _ (by simp; omega)]
    simp only [bindO]
    rw [w64 (n := m - szT (fs.take i) - ofF fs[i]) (by omega) (by omega), w64 (n := (i : Int) + 1) (by omega) (by omega)]
    by_cases hq : 0 ≤ m - szT (fs.take (i + 1))
    · rw [dec_false (by omega), cond_false, dec_true hq, if_pos rfl, h3]
      rw [show m - szT (fs.take i) - ofF fs[i] = m - (szT (fs.take i) + ofF fs[i]) by omega]
      rfl
    · rw [dec_true (by omega), cond_true, dec_false hq]
      rfl) (by
    have h1 : ¬ ((fs.length : Nat) : Int) < (fs.length : Int) := by omega
    simp only [L_i_Table_trim_0, dec_false h1, cond_false]
    rw [List.take_of_length_le (by omega)])
  have hkm : szT (fs.take k) ≤ m := by
    cases k with
    | zero => simp [szT]; omega
    | succ k => have := of_decide_eq_true (ht k (by omega)); omega
  refine ⟨k, ?_, ?_, hkm⟩
  · simp only [P_i_Table_trim, B_i_Table_trim]
    have e0 : (m, (0 : Int), ()) = (fun i : Nat => (m - szT (fs.take i), (i : Int), ())) 0 := by simp [szT]
    rw [e0]
    exact he
  · simp only [P_s_l4Fit_r99_0, B_s_l4Fit_r99_0]
    refine loopO_val (L_s_l4Fit_r99_0_0 P_s_SizeOf) (fun x => x.2.1.length) (fun x => x.1 = m ∧ ∃ j, k ≤ j ∧ j ≤ fs.length ∧ x.2.1 = fs.take j) _ (fun x hx => ?_) (m, fs, ()) ⟨rfl, fs.length, hk, Nat.le_refl _, by rw [List.take_of_length_le (by omega)]⟩
    obtain ⟨a, b, u⟩ := x
    obtain ⟨e1, j, hj1, hj2, e2⟩ := hx
    simp only at e1 e2
    subst e1 e2
    have h4 := szN_le fs j
    have hjl : (fs.take j).length = j := by rw [List.length_take]; omega
    simp only [L_s_l4Fit_r99_0_0]
    rw [s_SizeOf_val _ _ (by omega)]
    simp only [bindO]
    by_cases hq : szT (fs.take j) > a
    · left
      have hjk : k < j := by
        rcases Nat.lt_or_ge k j with h | h
        · exact h
        · have := szN_mono fs h; omega
      have e3 : IntKind.i64.wrap (((fs.take j).length : Int) - 1) = ((j - 1 : Nat) : Int) := by rw [w64 (by omega) (by omega)]; omega
      rw [dec_true hq, cond_true, e3, dec_true (by omega), dec_true (by omega)]
      refine ⟨(a, fs.take (j - 1), ()), ?_, ⟨rfl, j - 1, by omega, by omega, rfl⟩, by simp only [List.length_take]; omega⟩
      simp only [cond_true, Int.toNat_natCast, List.drop_zero, List.take_take]
      rw [Nat.min_eq_left (by omega)]
    · right
      rw [dec_false hq, cond_false]
      have hjk : j = k := by
        rcases Nat.lt_or_ge k j with h | h
        · have h5 := of_decide_eq_false (hf (by omega))
          have := szN_mono fs (i := k + 1) (j := j) (by omega)
          omega
        · omega
      rw [hjk]
theorem add_eq (t : TTable) (f : TField) (hm : 0 ≤ t.1) (hm2 : t.1 ≤ 1000000) (hs : szT t.2 + ofF f ≤ 1000000000) :
    ∃ T, P_i_Table_add t f = some ((t.1, T), ()) ∧ P_s_l4Add_r99_0 t f = some ((t.1, T), ()) ∧ szT T ≤ t.1 := by
  obtain ⟨m, fs⟩ := t
  have hl := szT_len fs
  have hf := ofF_pos f
  simp only at hm hm2 hs
  obtain ⟨k, h1, h2, h3⟩ := fit_eq m (f :: fs) hm hm2 (by simp only [szT]; omega)
  refine ⟨(f :: fs).take k, ?_, ?_, h3⟩
  · have e : insFn fs 0 [f] = some (f :: fs, ()) := by
      simp only [insFn]
      rw [dec_true (by omega), dec_true (by omega), dec_true (by simp), dec_true (by simp; omega)]
      rfl
    simp only [P_i_Table_add, B_i_Table_add, show P_slices_Insert_impl_Field_impl_Field = insFn from rfl, e, bindO, h1]
  · simp only [P_s_l4Add_r99_0, B_s_l4Add_r99_0]
    rw [gA32 (by simp; omega)]
    simp only [List.singleton_append, List.cons_append, List.nil_append, h2, bindO]
/-- A right table. -/
def OkTab (t : TTable) : Prop := 0 ≤ t.1 ∧ t.1 ≤ 4096 ∧ szT t.2 ≤ t.1
theorem tok_len {t : TTable} (h : OkTab t) : t.2.length ≤ 128 := by
  have := szT_len t.2
  obtain ⟨h0, h1, h2⟩ := h
  omega
theorem tok_ok {t : TTable} (h : OkTab t) : P_s_TableOk t = some (true, ()) := by
  obtain ⟨h0, h1, h2⟩ := h
  obtain ⟨m, fs⟩ := t
  simp only at h0 h1 h2
  simp only [P_s_TableOk, B_s_TableOk, l1In_eq, bindO, s_SizeOf_val m fs (by omega)]
  rw [dec_true ⟨h0, h1⟩, dec_true h2]
  rfl
theorem ok_tok {t : TTable} (hs : szT t.2 ≤ 10000000000000) (h : P_s_TableOk t = some (true, ())) : OkTab t := by
  obtain ⟨m, fs⟩ := t
  simp only at hs
  simp only [P_s_TableOk, B_s_TableOk, l1In_eq, bindO, s_SizeOf_val m fs hs] at h
  by_cases h1 : 0 ≤ m ∧ m ≤ 4096
  · rw [dec_true h1, cond_true] at h
    simp only [Option.some.injEq, Prod.mk.injEq, decide_eq_true_eq, and_true] at h
    exact ⟨h1.1, h1.2, h⟩
  · rw [dec_false h1, cond_false] at h
    simp at h
theorem bO {A B : Type} (x : A) (f : A → Option B) : bindO (some x) f = f x := rfl
theorem bSl {A B : Type} (x : A) (f : A → Option B) : bindS (some (Sum.inl x)) f = f x := rfl
theorem bSr {A B : Type} (y : B) (f : A → Option B) : bindS (some (Sum.inr y)) f = some y := rfl
theorem put_eq (t : TTable) (f : TField) (q : Int) (hq : q = 1 ∨ q = 3) (ht : OkTab t) (h1 : f.1.size ≤ 10000) (h2 : f.2.size ≤ 10000) (b : List Int) (hb : b.length ≤ 1000000000) :
    ∃ r T, P_s_PutField_r99_0 t f q = some (r, (t.1, T), ()) ∧ P_i_Table_put t b f q = some (b ++ r, (t.1, T), ()) ∧ OkTab (t.1, T) ∧ r.length ≤ 30000 := by
  have hl := tok_len ht
  have hr := findP_rng (firstT ++ t.2) f
  have hF := firstT_len
  rw [List.length_append] at hr
  obtain ⟨ht0, ht1, ht2⟩ := ht
  have hcp := l4Copy_eq t (by omega)
  have hok := tok_ok ⟨ht0, ht1, ht2⟩
  have hfs := s_FindField_eq t f (by omega)
  have hfi := i_FindField_eq t f (by omega)
  generalize findP (firstT ++ t.2) f = w at *
  obtain ⟨j, found⟩ := w
  simp only at hr hfs hfi
  have hq13 : 1 ≤ q ∧ q ≤ 3 := by omega
  have hcase : (found = true ∧ ¬ q = 3) ∨ ¬ (found = true ∧ ¬ q = 3) := Classical.em _
  simp only [P_s_PutField_r99_0, B_s_PutField_r99_0, P_i_Table_put, B_i_Table_put, hcp, hok, hfs, hfi, l1In_eq, dec_true hq13, bO, bSl, bSr, Bool.not_true, cond_false]
  rcases hcase with ⟨hf, hq3⟩ | hnf
  · subst hf
    have hj : ¬ (j : Int) < 0 := by omega
    simp only [dec_false hq3, cond_true, Bool.not_false]
    rw [(pf_7_128 j [] (by omega) (by omega) (by simp)).1, (pf_7_128 j b (by omega) (by omega) (by omega)).2]
    have := pfx_len 127 128 j
    exact ⟨pfx 127 128 j, t.2, rfl, rfl, ⟨ht0, ht1, ht2⟩, by omega⟩
  · -- in full
    have e1 : (bif found then some ((!decide (q = 3)), ()) else some (false, ())) = some (false, ()) := by
      cases found with
      | false => rfl
      | true =>
        have : q = 3 := by
          rcases Classical.em (q = 3) with h | h
          · exact h
          · exact absurd ⟨rfl, h⟩ hnf
        rw [this]; rfl
    have e2 : (bif found then bif (!decide (q = 3)) then (bindO (P_i_putPrefix b 7 128 j) fun c28 => some (.inr (c28.1, t, ()))) else some (.inl (())) else some (.inl (()))) = some (Sum.inl (β := List Int × TTable × Unit) ()) := by
      cases found with
      | false => rfl
      | true =>
        have : q = 3 := by
          rcases Classical.em (q = 3) with h | h
          · exact h
          · exact absurd ⟨rfl, h⟩ hnf
        rw [this]; rfl
    rw [e1]
    simp only [cond_false, bO, bSl, bSr]
    rw [e2]
    simp only [bO, bSl, bSr]
    obtain ⟨n, fl, M, hP, hM1, hM2⟩ : ∃ n fl M, Pf n fl M ∧ P_s_l5Mode q = some (n, fl, ()) ∧ P_i_formOf q = some (n, fl, ()) := by
      rcases hq with rfl | rfl
      · exact ⟨6, 64, 63, pf_6_64, rfl, rfl⟩
      · exact ⟨4, 16, 15, pf_4_16, rfl, rfl⟩
    rw [hM1, hM2]
    simp only [bO, bSl, bSr]
    have p1 := (hP j [] (by omega) (by omega) (by simp)).1
    have p2 := (hP j b (by omega) (by omega) (by omega)).2
    rw [p1, p2]
    have hpl := pfx_len M fl j
    generalize pfx M fl j = p at *
    simp only [List.nil_append, bO]
    obtain ⟨p', hp1, hp2, hp3⟩ : ∃ p', (bif (decide (j = 0)) then (bindO (P_s_PutString p f.1) fun c56 => some (c56.1, ())) else some (p, ())) = some (p', ()) ∧ (bif (decide (j = 0)) then (bindO (P_i_putString (b ++ p) f.1) fun c56 => some (c56.1, ())) else some (b ++ p, ())) = some (b ++ p', ()) ∧ p'.length ≤ 10020 := by
      by_cases hj : j = 0
      · refine ⟨p ++ strP f.1, ?_, ?_, ?_⟩
        · rw [dec_true hj, cond_true, s_PutString_eq _ _ (by omega) (by omega), bO]
        · rw [dec_true hj, cond_true, i_putString_eq _ _ (by simp only [List.length_append]; omega) (by omega), bO]
          simp only [List.append_assoc]
        · have := strP_len f.1
          simp only [List.length_append]; omega
      · exact ⟨p, by rw [dec_false hj, cond_false], by rw [dec_false hj, cond_false], by omega⟩
    rw [hp1, hp2]
    simp only [bO, bSl, bSr]
    rw [s_PutString_eq _ _ (by omega) (by omega), i_putString_eq _ _ (by simp only [List.length_append]; omega) (by omega)]
    have hsl := strP_len f.2
    simp only [bO, bSl, bSr]
    rcases hq with rfl | rfl
    · obtain ⟨T, a1, a2, a3⟩ := add_eq t f ht0 (by omega) (by unfold ofF; omega)
      rw [a1, a2]
      exact ⟨p' ++ strP f.2, T, rfl, by simp only [List.append_assoc]; rfl, ⟨ht0, ht1, a3⟩, by simp only [List.length_append]; omega⟩
    · exact ⟨p' ++ strP f.2, t.2, rfl, by simp only [List.append_assoc]; rfl, ⟨ht0, ht1, ht2⟩, by simp only [List.length_append]; omega⟩
set_option maxRecDepth 100000
def itB (n : Int) : ByteArray := ⟨(Lib.itoa n).toArray⟩
theorem itB_small {n : Int} (h0 : 0 ≤ n) (h1 : n < 10) : itB n = strOf [IntKind.u8.wrap (IntKind.i64.wrap (48 + n))] := by
  have h2 : IntKind.u8.wrap (48 + n) = 48 + n := by
    simp only [IntKind.wrap, IntKind.bits, IntKind.signed, Bool.false_and]; simp; omega
  rw [w64 (by omega) (by omega), h2]
  unfold itB strOf strOfNums Lib.itoa
  rw [if_neg (by omega), Lib.decDigits_one (by omega)]
  simp only [List.map_cons, List.map_nil]
  rw [show (48 + n).toNat = 48 + n.toNat by omega]
theorem itB_big {n : Int} (h1 : ¬ n < 10) : itB n = itB (n / 10) ++ strOf [IntKind.u8.wrap (IntKind.i64.wrap (48 + n % 10))] := by
  have h2 : IntKind.u8.wrap (48 + n % 10) = 48 + n % 10 := by
    simp only [IntKind.wrap, IntKind.bits, IntKind.signed, Bool.false_and]; simp; omega
  rw [w64 (by omega) (by omega), h2]
  apply ByteArray.ext
  rw [ByteArray.data_append]
  unfold itB strOf strOfNums Lib.itoa
  rw [if_neg (by omega), if_neg (by omega), Lib.decDigits, dif_neg (by omega)]
  simp only [List.map_cons, List.map_nil]
  rw [show (48 + n % 10).toNat = 48 + n.toNat % 10 by omega, show (n / 10).toNat = n.toNat / 10 by omega]
  simp
theorem strOf1_size (x : Int) : (strOf [x]).size = 1 := by rw [strOf_size]; rfl
theorem text_lvl (f : Int → Option (ByteArray × Unit)) (N : Int) (s : Nat) (hs : s ≤ 1000) (hN : N ≤ 1000000000000) (hf : ∀ n, 1 ≤ n → n < N → f n = some (itB n, ()) ∧ (itB n).size ≤ s) (n : Int) (h0 : 0 ≤ n) (h1 : n < 10 * N) :
    B_s_l1Text_r89_1 f n = some (itB n, ()) ∧ (itB n).size ≤ s + 1 := by
  by_cases h : n < 10
  · refine ⟨?_, ?_⟩
    · simp only [B_s_l1Text_r89_1, dec_true h, cond_true]
      rw [← itB_small h0 h]
    · rw [itB_small h0 h, strOf1_size]; omega
  · obtain ⟨e, hl⟩ := hf (n / 10) (by omega) (by omega)
    have e1 : n.tdiv 10 = n / 10 := Int.tdiv_eq_ediv_of_nonneg h0
    have e2 : n.tmod 10 = n % 10 := Int.tmod_eq_emod_of_nonneg h0
    refine ⟨?_, by rw [itB_big h, ByteArray.size_append, strOf1_size]; omega⟩
    simp only [B_s_l1Text_r89_1, dec_false h, cond_false, e1, e2]
    rw [w64 (n := n / 10) (by omega) (by omega), e]
    simp only [bindO, strOf1_size]
    rw [dec_false (by simp only [IntKind.max, IntKind.signed, IntKind.bits]; simp; omega), cond_false, ← itB_big h]
theorem text_eq (n : Int) (h0 : 0 ≤ n) (h1 : n ≤ 4294967295) : P_s_l1Text n = some (itB n, ()) ∧ (itB n).size ≤ 10 := by
  have a1 := text_lvl P_s_l1Text_nil 1 0 (by omega) (by omega) (fun n h h' => by omega)
  have a2 := text_lvl P_s_l1Text_r89_1 10 1 (by omega) (by omega) (fun n h h' => a1 n (by omega) (by omega))
  have a3 := text_lvl P_s_l1Text_r89_2 100 2 (by omega) (by omega) (fun n h h' => a2 n (by omega) (by omega))
  have a4 := text_lvl P_s_l1Text_r89_3 1000 3 (by omega) (by omega) (fun n h h' => a3 n (by omega) (by omega))
  have a5 := text_lvl P_s_l1Text_r89_4 10000 4 (by omega) (by omega) (fun n h h' => a4 n (by omega) (by omega))
  have a6 := text_lvl P_s_l1Text_r89_5 100000 5 (by omega) (by omega) (fun n h h' => a5 n (by omega) (by omega))
  have a7 := text_lvl P_s_l1Text_r89_6 1000000 6 (by omega) (by omega) (fun n h h' => a6 n (by omega) (by omega))
  have a8 := text_lvl P_s_l1Text_r89_7 10000000 7 (by omega) (by omega) (fun n h h' => a7 n (by omega) (by omega))
  have a9 := text_lvl P_s_l1Text_r89_8 100000000 8 (by omega) (by omega) (fun n h h' => a8 n (by omega) (by omega))
  have a10 := text_lvl P_s_l1Text_r89_9 1000000000 9 (by omega) (by omega) (fun n h h' => a9 n (by omega) (by omega))
  exact a10 n h0 (by omega)
theorem itoa_eq (n : Int) (h0 : 0 ≤ n) (h1 : n ≤ 4294967295) : P_strconv_Itoa n = some (itB n, ()) := by
  have e : (decide (-9223372036854775808 ≤ n) && decide (n ≤ 9223372036854775807)) = true := by
    rw [dec_true (by omega), dec_true (by omega)]; rfl
  rw [show P_strconv_Itoa n = itoaFn n from rfl]
  simp only [itoaFn, e, cond_true]
  rfl
theorem PutFields_eq (t : TTable) (fs : List TField) (ht : OkTab t) (hl : fs.length ≤ 1000) (hf : ∀ f ∈ fs, f.1.size ≤ 10000 ∧ f.2.size ≤ 10000) :
    ∃ r T, P_s_PutFields_r99_0 t fs = some (r, (t.1, T), ()) ∧ P_i_PutFields t fs = some (r, (t.1, T), ()) ∧ OkTab (t.1, T) ∧ r.length ≤ 30000 * fs.length := by
  have htl := tok_len ht
  have key : ∀ k, k ≤ fs.length → ∃ T r, OkTab (t.1, T) ∧ r.length ≤ 30000 * k ∧ loopO (L_s_PutFields_r99_0_0 P_s_PutField_r99_0 fs) (0, t.1, t.2, [], ()) = loopO (L_s_PutFields_r99_0_0 P_s_PutField_r99_0 fs) ((k : Int), t.1, T, r, ())
      ∧ loopO (L_i_PutFields_0 P_i_Table_put fs) (0, t.1, t.2, [], ()) = loopO (L_i_PutFields_0 P_i_Table_put fs) ((k : Int), t.1, T, r, ()) := by
    intro k
    induction k with
    | zero => intro _; exact ⟨t.2, [], ht, by simp, rfl, rfl⟩
    | succ k ih =>
      intro hk
      obtain ⟨T, r, h1, h2, h3, h4⟩ := ih (by omega)
      have hlt : k < fs.length := by omega
      have a1 : (k : Int) < (fs.length : Int) := by omega
      have a2 : (0 : Int) ≤ (k : Int) := by omega
      have a3 : rd kField fs (k : Int) = fs[k] := rd_nat (k := kField) hlt
      have a4 := hf fs[k] (List.getElem_mem hlt)
      cases hq : (fs[k].1.toList == (⟨#[97, 117, 116, 104, 111, 114, 105, 122, 97, 116, 105, 111, 110]⟩ : ByteArray).toList) with
      | true =>
        obtain ⟨r', T', b1, b2, b3, b4⟩ := put_eq (t.1, T) fs[k] 3 (Or.inr rfl) h1 a4.1 a4.2 r (by omega)
        refine ⟨T', r ++ r', b3, by simp only [List.length_append]; omega, ?_, ?_⟩
        · rw [h3]
          refine loopO_inl ?_
          simp only [L_s_PutFields_r99_0_0, dec_true a1, dec_true a2, cond_true, a3, hq, bO, b1]
          rw [gA (by omega), w64 (by omega) (by omega)]
          rfl
        · rw [h4]
          refine loopO_inl ?_
          simp only [L_i_PutFields_0, dec_true a1, dec_true a2, cond_true, a3, hq, bO, b2]
          rw [w64 (by omega) (by omega)]
          rfl
      | false =>
        obtain ⟨r', T', b1, b2, b3, b4⟩ := put_eq (t.1, T) fs[k] 1 (Or.inl rfl) h1 a4.1 a4.2 r (by omega)
        refine ⟨T', r ++ r', b3, by simp only [List.length_append]; omega, ?_, ?_⟩
        · rw [h3]
          refine loopO_inl ?_
          simp only [L_s_PutFields_r99_0_0, dec_true a1, dec_true a2, cond_true, cond_false, a3, hq, bO, b1]
          rw [gA (by omega), w64 (by omega) (by omega)]
          rfl
        · rw [h4]
          refine loopO_inl ?_
          simp only [L_i_PutFields_0, dec_true a1, dec_true a2, cond_true, cond_false, a3, hq, bO, b2]
          rw [w64 (by omega) (by omega)]
          rfl
  obtain ⟨T, r, h1, h2, h3, h4⟩ := key fs.length (Nat.le_refl _)
  have e1 : ¬ ((fs.length : Nat) : Int) < (fs.length : Int) := by omega
  have f1 : loopO (L_s_PutFields_r99_0_0 P_s_PutField_r99_0 fs) ((fs.length : Int), t.1, T, r, ()) = some (t.1, T, r, ()) := by
    rw [loopO_eq]
    simp only [L_s_PutFields_r99_0_0, dec_false e1, cond_false]
  have f2 : loopO (L_i_PutFields_0 P_i_Table_put fs) ((fs.length : Int), t.1, T, r, ()) = some (t.1, T, r, ()) := by
    rw [loopO_eq]
    simp only [L_i_PutFields_0, dec_false e1, cond_false]
  refine ⟨r, T, ?_, ?_, h1, h2⟩
  · simp only [P_s_PutFields_r99_0, B_s_PutFields_r99_0, l4Copy_eq t (by omega), bO]
    rw [h3, f1]
    rfl
  · have hok : P_i_TableOk t = some (true, ()) := tok_ok ht
    simp only [P_i_PutFields, B_i_PutFields, copyTable_eq t (by omega), hok, bO, Bool.not_true, cond_false]
    rw [h4, f2]
    rfl
set_option maxRecDepth 100000
/-- How large pieces are. -/
def czN (a : Int) : Nat := if a < 1 then 1 else if a > 1000 then 1000 else a.toNat
theorem czN_rng (a : Int) : 1 ≤ czN a ∧ czN a ≤ 1000 := by
  unfold czN
  split
  · omega
  · split <;> omega
theorem cz_s (a : Int) : (bindO (bif (decide (a < 1)) then some ((1 : Int), ()) else some (a, ())) fun (m0 : Int × Unit) => (bif (decide (m0.1 > 1000)) then some ((1000 : Int), ()) else some (m0.1, ()))) = some ((czN a : Int), ()) := by
  unfold czN
  by_cases h : a < 1
  · rw [dec_true h, cond_true, bO, if_pos h]; rfl
  · rw [dec_false h, cond_false, bO, if_neg h]
    by_cases h2 : a > 1000
    · rw [dec_true h2, cond_true, if_pos h2]; rfl
    · rw [dec_false h2, cond_false, if_neg h2]
      rw [show ((a.toNat : Nat) : Int) = a by omega]
theorem cz_i (a : Int) : (bif decide ((bif decide (1000 < a) then 1000 else a) > 1) then (bif decide (1000 < a) then 1000 else a) else 1) = (czN a : Int) := by
  unfold czN
  by_cases h2 : 1000 < a
  · rw [dec_true h2, cond_true, if_neg (by omega), if_pos (by omega)]; rfl
  · rw [dec_false h2, cond_false]
    by_cases h : a > 1
    · rw [dec_true h, cond_true, if_neg (by omega), if_neg (by omega)]; omega
    · rw [dec_false h, cond_false]
      by_cases h3 : a < 1
      · rw [if_pos h3]; rfl
      · rw [if_neg h3, if_neg (by omega)]; omega
/-- How many pieces. -/
def ceN (n L : Nat) : Nat := (L + n - 1) / n
theorem ceN_lt {n L j : Nat} (hn : 0 < n) : j < ceN n L ↔ j * n < L := by
  unfold ceN
  rw [Nat.lt_iff_add_one_le, Nat.le_div_iff_mul_le hn, Nat.succ_mul]
  omega
theorem ceN_ge {n L : Nat} (hn : 0 < n) : L ≤ ceN n L * n := by
  have h : ¬ ceN n L < ceN n L := Nat.lt_irrefl _
  rw [ceN_lt hn] at h
  omega
theorem ceN_le {n L : Nat} (hn : 0 < n) : ceN n L ≤ L := by
  have h : ¬ L < ceN n L := by
    rw [ceN_lt hn]
    have := Nat.le_mul_of_pos_right L hn
    omega
  omega
def frx (id fl : Int) (n : Nat) (xs : List Int) (j : Nat) : TFrame := (if j = 0 then 1 else 9, if j = 0 then fl else 0, id, pieceL n xs j)
def frs (id fl : Int) (n : Nat) (xs : List Int) : Nat → List TFrame
  | 0 => []
  | j + 1 => frs id fl n xs j ++ [frx id fl n xs j]
theorem frs_len (id fl : Int) (n : Nat) (xs : List Int) : ∀ j, (frs id fl n xs j).length = j
  | 0 => rfl
  | j + 1 => by simp only [frs, List.length_append, frs_len id fl n xs j, List.length_singleton]
def endF (f : TFrame) : TFrame := (f.1, bOr .i64 f.2.1 4, f.2.2)
/-- The frames of a block. -/
def partP (id fl : Int) (n : Nat) (xs : List Int) : List TFrame := frs id fl n xs (max 1 (ceN n xs.length) - 1) ++ [endF (frx id fl n xs (max 1 (ceN n xs.length) - 1))]
theorem rd_last {A : List TFrame} {x : TFrame} : rd kFrame (A ++ [x]) (A.length : Int) = x := by
  simp [rd]
theorem set_last {A : List TFrame} {x y : TFrame} : (A ++ [x]).set A.length y = A ++ [y] := by
  simp [List.set_append_right]
theorem cloneB_eq (xs : List Int) (h : xs.length ≤ 1000000000) : P_slices_Clone_byte_byte xs = some (xs, ()) := by
  simp only [P_slices_Clone_byte_byte, B_slices_Clone_byte_byte]
  rw [gA (by simp; omega)]
  by_cases h0 : 0 < xs.length
  · rw [dec_true h0, cond_true]; rfl
  · rw [dec_false h0, cond_false]
    have : xs = [] := List.length_eq_zero_iff.1 (by omega)
    subst this
    simp [eqO]
theorem piece_len (n : Nat) (xs : List Int) (j : Nat) : (pieceL n xs j).length = min (j * n + n) xs.length - j * n := by
  simp [pieceL]
theorem foldP_snoc {X Y : Type} (G : X → Y → Option Y) : ∀ (xs : List X) (x : X) (y : Y), foldP G (xs ++ [x]) y = bindO (foldP G xs y) (G x)
  | [], x, y => by
    simp only [List.nil_append, foldP, bO]
    cases G x y <;> rfl
  | z :: xs, x, y => by
    simp only [List.cons_append, foldP]
    cases G z y with
    | none => rfl
    | some y' => exact foldP_snoc G xs x y'
theorem s_Part_eq (id : Int) (a1 : Bool) (xs : List Int) (a3 : Int) (hid : 1 ≤ id ∧ id ≤ 2147483647) (hx : xs.length ≤ 100000000) :
    P_s_Part id a1 xs a3 = some (partP id (if a1 then 1 else 0) (czN a3) xs, ()) := by
  have hn := czN_rng a3
  have e0 := cz_s a3
  simp only [P_s_Part, B_s_Part, l1In_eq, dec_true hid, bO, Bool.not_true, cond_false]
  have e1 : ∀ (K : Int × Unit → Option (List TFrame × Unit)), (bindO (bif (decide (a3 < 1)) then some ((1 : Int), ()) else some (a3, ())) fun (m0 : Int × Unit) => bindO (bif (decide (m0.1 > 1000)) then some ((1000 : Int), ()) else some (m0.1, ())) K) = K ((czN a3 : Int), ()) := by
    intro K
    rw [show K ((czN a3 : Int), ()) = bindO (some ((czN a3 : Int), ())) K from rfl, ← e0]
    cases (bif (decide (a3 < 1)) then some ((1 : Int), ()) else some (a3, ())) <;> rfl
  rw [e1]
  generalize czN a3 = n at *
  have hn0 : 0 < n := by omega
  have hN1 : 1 ≤ max 1 (ceN n xs.length) := Nat.le_max_left _ _
  have hN2 : max 1 (ceN n xs.length) ≤ 100000000 := by have := ceN_le (n := n) (L := xs.length) hn0; omega
  have hlt : ∀ j, j < max 1 (ceN n xs.length) → j = 0 ∨ j * n < xs.length := by
    intro j hj
    rcases Nat.eq_zero_or_pos j with h | h
    · exact Or.inl h
    · exact Or.inr ((ceN_lt hn0).1 (by omega))
  have hlast : ∀ j, j < max 1 (ceN n xs.length) → (xs.length ≤ j * n + n ↔ j = max 1 (ceN n xs.length) - 1) := by
    intro j hj
    have h1 := ceN_lt (n := n) (L := xs.length) (j := j + 1) hn0
    rw [Nat.succ_mul] at h1
    omega
  have hge : xs.length ≤ max 1 (ceN n xs.length) * n := by
    have h1 := ceN_ge (n := n) (L := xs.length) hn0
    have h2 := Nat.mul_le_mul_right n (Nat.le_max_right 1 (ceN n xs.length))
    omega
  have hbig : ∀ j, j < max 1 (ceN n xs.length) → j * n ≤ 100000000 := by
    intro j hj
    rcases hlt j hj with h | h
    · subst h; omega
    · omega
  unfold partP
  generalize max 1 (ceN n xs.length) = N at *
  have hfl : ∀ (K : Int × Int × Int × Unit → Option ((Int × List TFrame × Unit) ⊕ (List TFrame × Unit))) (j : Nat), j * n ≤ 100000000 → (bindO (bif (decide (((j * n : Nat) : Int) = 0)) then bif a1 then some ((1 : Int), (1 : Int), id, ()) else some (1, 0, id, ()) else some (9, 0, id, ())) K) = K ((if j = 0 then 1 else 9), (if j = 0 then (if a1 then 1 else 0) else 0), id, ()) := by
    intro K j hj
    rcases Nat.eq_zero_or_pos j with h | h
    · subst h
      rw [show (((0 * n : Nat) : Int)) = 0 by simp]
      cases a1 <;> rfl
    · have h2 : 0 < j * n := Nat.mul_pos h hn0
      rw [dec_false (p := ((j * n : Nat) : Int) = 0) (by omega), cond_false, if_neg (by omega), if_neg (by omega)]
      rfl
  have hX : ∀ l k f q, ([(l, (k, (f, q)))] : List TFrame).length = 1 := fun _ _ _ _ => rfl
  refine (loopO_count (L_s_Part_0 xs a1 id ((n : Int), ())) (fun j => (((j * n : Nat) : Int), (if j < N then frs id (if a1 then 1 else 0) n xs j else frs id (if a1 then 1 else 0) n xs (N - 1) ++ [endF (frx id (if a1 then 1 else 0) n xs (N - 1))]), ())) N _ (fun j hj => ?_) ?_ |> fun h => by
    rw [show ((0 : Int), ([] : List TFrame), ()) = (fun j : Nat => (((j * n : Nat) : Int), (if j < N then frs id (if a1 then 1 else 0) n xs j else frs id (if a1 then 1 else 0) n xs (N - 1) ++ [endF (frx id (if a1 then 1 else 0) n xs (N - 1))]), ())) 0 by
      simp only [Nat.zero_mul, if_pos (show 0 < N by omega)]; rfl]
    exact h)
  · have b1 := hlt j hj
    have b2 := hlast j hj
    have b3 := hbig j hj
    have b4 := frs_len id (if a1 then 1 else 0) n xs j
    have b5 : j * n ≤ xs.length := by
      rcases b1 with h | h
      · subst h; simp
      · omega
    have c1 : (bif (decide (((j * n : Nat) : Int) = 0)) then some (Sum.inl ()) else bif (decide (((j * n : Nat) : Int) < (xs.length : Int))) then some (Sum.inl ()) else some (Sum.inr (Sum.inr ((if j < N then frs id (if a1 then 1 else 0) n xs j else frs id (if a1 then 1 else 0) n xs (N - 1) ++ [endF (frx id (if a1 then 1 else 0) n xs (N - 1))]), ())))) = some (Sum.inl (β := (Int × List TFrame × Unit) ⊕ (List TFrame × Unit)) ()) := by
      rcases b1 with h | h
      · subst h
        rw [show (((0 * n : Nat) : Int)) = 0 by simp]
        rfl
      · rw [dec_true (p := ((j * n : Nat) : Int) < (xs.length : Int)) (by omega)]
        cases decide (((j * n : Nat) : Int) = 0) <;> rfl
    simp only [L_s_Part_0]
    rw [c1, bSl, hfl _ j b3]
    simp only [if_pos hj]
    rw [w64 (n := ((j * n : Nat) : Int) + (n : Int)) (by omega) (by omega)]
    by_cases hL : xs.length ≤ j * n + n
    · have hjN : j = N - 1 := b2.1 hL
      have hp : (xs.take xs.length).drop (j * n) = pieceL n xs j := by
        unfold pieceL
        rw [List.take_of_length_le (Nat.le_refl _), List.take_of_length_le hL]
      have hpl := piece_len n xs j
      rw [dec_true (by omega), cond_true, bO]
      simp only [Int.toNat_natCast, hp]
      rw [dec_true (by omega), dec_true (by omega), dec_true (by omega)]
      simp only [cond_true, List.nil_append]
      rw [gA (by simp only [List.length_nil]; omega), gA48 (by rw [b4, hX]; omega)]
      rw [if_neg (show ¬ j + 1 < N by omega), hjN.symm, Nat.succ_mul]
      simp only [endF, frx]
      congr 4
    · have hjN : ¬ j = N - 1 := fun h => hL (b2.2 h)
      have hp : (xs.take (((j * n : Nat) : Int) + (n : Int)).toNat).drop (j * n) = pieceL n xs j := by
        unfold pieceL
        rw [show (((j * n : Nat) : Int) + (n : Int)).toNat = j * n + n by omega]
      have hpl := piece_len n xs j
      rw [dec_false (by omega), cond_false, bO]
      simp only [Int.toNat_natCast, hp]
      rw [dec_true (by omega), dec_true (by omega), dec_true (by omega)]
      simp only [cond_true, List.nil_append]
      rw [gA (by simp only [List.length_nil]; omega), gA48 (by rw [b4, hX]; omega)]
      rw [if_pos (show j + 1 < N by omega), Nat.succ_mul]
      simp only [frs, frx]
      congr 4
  · have h2 : 0 < N * n := Nat.mul_pos (by omega) hn0
    have c1 : decide (((N * n : Nat) : Int) = 0) = false := dec_false (by omega)
    have c2 : decide (((N * n : Nat) : Int) < (xs.length : Int)) = false := dec_false (by omega)
    simp only [L_s_Part_0, c1, c2, cond_false, bSr, if_neg (show ¬ N < N by omega)]
theorem i_Part_fold (id fl : Int) (n : Nat) (xs : List Int) (hn : 0 < n) (hx : xs.length ≤ 100000000) : ∀ j, j ≤ ceN n xs.length →
    foldP (L_i_Part_0 P_slices_Clone_byte_byte id) ((List.range j).map (pieceL n xs)) ([(1, (fl, (id, [])))], ()) = some (if j = 0 then [(1, (fl, (id, [])))] else frs id fl n xs j, ()) := by
  have hC := ceN_le (n := n) (L := xs.length) hn
  intro j
  induction j with
  | zero => intro _; rfl
  | succ j ih =>
    intro hj
    have hlt := (ceN_lt (n := n) (L := xs.length) (j := j) hn).1 (by omega)
    have hpl := piece_len n xs j
    rw [List.range_succ, List.map_append, List.map_cons, List.map_nil, foldP_snoc, ih (by omega), bO, if_neg (Nat.succ_ne_zero j)]
    have hcl := cloneB_eq (pieceL n xs j) (by omega)
    cases j with
    | zero =>
      simp only [if_true, L_i_Part_0, List.length_singleton]
      rw [show IntKind.i64.wrap (((1 : Nat) : Int) - 1) = 0 from rfl]
      have r0 : rd kFrame ([(1, (fl, (id, [])))] : List TFrame) 0 = (1, (fl, (id, []))) := rfl
      rw [dec_true (by omega), dec_true (by omega), r0]
      simp only [cond_true, List.length_nil]
      rw [dec_false (by omega), cond_false, hcl]
      rfl
    | succ j =>
      have hpl' := piece_len n xs j
      have hlt' := (ceN_lt (n := n) (L := xs.length) (j := j) hn).1 (by omega)
      rw [if_neg (Nat.succ_ne_zero j)]
      have hfl := frs_len id fl n xs j
      have e1 : frs id fl n xs (j + 1) = frs id fl n xs j ++ [frx id fl n xs j] := rfl
      have hl2 := frs_len id fl n xs (j + 1)
      have w1 : IntKind.i64.wrap (((frs id fl n xs (j + 1)).length : Int) - 1) = ((frs id fl n xs j).length : Int) := by rw [hl2, hfl, w64 (by omega) (by omega)]; omega
      have hl3 : ∀ y : TFrame, (frs id fl n xs (j + 1) ++ [y]).length = j + 2 := fun y => by rw [List.length_append, hl2]; rfl
      have w2 : ∀ y : TFrame, IntKind.i64.wrap (((frs id fl n xs (j + 1) ++ [y]).length : Int) - 1) = ((frs id fl n xs (j + 1)).length : Int) := fun y => by rw [hl3, hl2, w64 (by omega) (by omega)]; omega
      have hq : ((rd kFrame (frs id fl n xs (j + 1)) ((frs id fl n xs j).length : Int)).2.2.2.length : Int) > 0 := by
        rw [e1, rd_last]
        simp only [frx]
        rw [hpl']
        have := Nat.succ_mul j n
        omega
      simp only [L_i_Part_0, w1, w2]
      rw [dec_true (by omega), dec_true (by rw [hfl, hl2]; omega)]
      simp only [cond_true]
      rw [dec_true hq, cond_true, gA48 (by rw [hl2]; simp; omega), dec_true (by omega), dec_true (by rw [hl2, hl3]; omega), hcl]
      simp only [cond_true, bO, Int.toNat_natCast, rd_last, set_last]
      rfl
theorem i_Part_eq (id : Int) (a1 : Bool) (xs : List Int) (a3 : Int) (hid : 1 ≤ id ∧ id ≤ 2147483647) (hx : xs.length ≤ 100000000) :
    P_i_Part id a1 xs a3 = some (partP id (if a1 then 1 else 0) (czN a3) xs, ()) := by
  have hn := czN_rng a3
  have hn0 : 0 < czN a3 := by omega
  have hC := ceN_le (n := czN a3) (L := xs.length) hn0
  have e1 : (bif a1 then bif decide (0 < (([(1, (0, (id, [])))] : List TFrame).length : Int)) then bindO (some (([(1, (0, (id, [])))]).set 0 ((rd kFrame ([(1, (0, (id, [])))]) 0).1, (1, (rd kFrame ([(1, (0, (id, [])))]) 0).2.2)))) fun (c9002 : List TFrame) => some (c9002, ()) else none else some ([(1, (0, (id, [])))], ())) = some (([(1, ((if a1 then 1 else 0), (id, [])))] : List TFrame), ()) := by
    cases a1 <;> rfl
  simp only [bO] at e1
  simp only [P_i_Part, B_i_Part, inRange_eq, dec_true hid, bO, Bool.not_true, cond_false, cz_i]
  rw [e1]
  simp only [bO]
  have f1 := i_Part_fold id (if a1 then 1 else 0) (czN a3) xs hn0 hx (ceN (czN a3) xs.length) (Nat.le_refl _)
  generalize (if a1 then (1 : Int) else 0) = fl at *
  unfold partP
  generalize czN a3 = n at *
  have hpc : pieces n xs = (List.range (ceN n xs.length)).map (pieceL n xs) := rfl
  rw [dec_true (by omega), dec_true (by omega), dec_true (by omega)]
  simp only [cond_true, Int.toNat_natCast]
  rw [hpc, f1]
  simp only [bO]
  have e2 : (if ceN n xs.length = 0 then ([(1, (fl, (id, [])))] : List TFrame) else frs id fl n xs (ceN n xs.length)) = frs id fl n xs (max 1 (ceN n xs.length) - 1) ++ [frx id fl n xs (max 1 (ceN n xs.length) - 1)] := by
    by_cases h : ceN n xs.length = 0
    · rw [if_pos h, h]
      have hx0 : xs = [] := by
        have := ceN_ge (n := n) (L := xs.length) hn0
        rw [h] at this
        exact List.length_eq_zero_iff.1 (by omega)
      subst hx0
      simp [frs, frx, pieceL]
    · rw [if_neg h, show max 1 (ceN n xs.length) = (max 1 (ceN n xs.length) - 1) + 1 by omega]
      have : ceN n xs.length = (max 1 (ceN n xs.length) - 1) + 1 := by omega
      conv => lhs; rw [this]
      rfl
  have hl := frs_len id fl n xs (max 1 (ceN n xs.length) - 1)
  rw [e2]
  generalize frs id fl n xs (max 1 (ceN n xs.length) - 1) = A at *
  generalize frx id fl n xs (max 1 (ceN n xs.length) - 1) = x at *
  have hl1 : (A ++ [x]).length = A.length + 1 := by simp
  have w1 : IntKind.i64.wrap (((A ++ [x]).length : Int) - 1) = (A.length : Int) := by rw [hl1, w64 (by omega) (by omega)]; omega
  simp only [w1, rd_last, set_last, Int.toNat_natCast]
  rw [dec_true (by omega), dec_true (by omega)]
  rfl
theorem fok (k fl id : Int) (q : List Int) (h1 : 0 ≤ k ∧ k ≤ 255) (h2 : 0 ≤ fl ∧ fl ≤ 255) (h3 : 0 ≤ id ∧ id ≤ 2147483647) (h4 : (q.length : Int) ≤ 1000) : frameOkB (k, fl, id, q) = true := by
  simp only [frameOkB, dec_true h1, dec_true h2, dec_true h3, dec_true h4]
  rfl
theorem frx_ok (id : Int) (a1 : Bool) (n : Nat) (xs : List Int) (hid : 1 ≤ id ∧ id ≤ 2147483647) (hn : n ≤ 1000) (j : Nat) :
    frameOkB (frx id (if a1 then 1 else 0) n xs j) = true ∧ frameOkB (endF (frx id (if a1 then 1 else 0) n xs j)) = true := by
  have hpl := piece_len n xs j
  have h1 : ((pieceL n xs j).length : Int) ≤ 1000 := by omega
  have h2 : 0 ≤ id ∧ id ≤ 2147483647 := by omega
  have b0 : bOr .i64 0 4 = 4 := rfl
  have b1 : bOr .i64 1 4 = 5 := rfl
  unfold endF frx
  rcases Nat.eq_zero_or_pos j with h | h
  · subst h
    cases a1
    · exact ⟨fok 1 0 id _ (by omega) (by omega) h2 h1, fok 1 (bOr .i64 0 4) id _ (by omega) (by rw [b0]; omega) h2 h1⟩
    · exact ⟨fok 1 1 id _ (by omega) (by omega) h2 h1, fok 1 (bOr .i64 1 4) id _ (by omega) (by rw [b1]; omega) h2 h1⟩
  · simp only [if_neg (show ¬ j = 0 by omega)]
    exact ⟨fok 9 0 id _ (by omega) (by omega) h2 h1, fok 9 (bOr .i64 0 4) id _ (by omega) (by rw [b0]; omega) h2 h1⟩
theorem frs_ok (id : Int) (a1 : Bool) (n : Nat) (xs : List Int) (hid : 1 ≤ id ∧ id ≤ 2147483647) (hn : n ≤ 1000) : ∀ j, ∀ f ∈ frs id (if a1 then 1 else 0) n xs j, frameOkB f = true
  | 0, f, hf => by simp [frs] at hf
  | j + 1, f, hf => by
    simp only [frs, List.mem_append, List.mem_singleton] at hf
    rcases hf with h | h
    · exact frs_ok id a1 n xs hid hn j f h
    · subst h; exact (frx_ok id a1 n xs hid hn j).1
theorem partP_ok (id : Int) (a1 : Bool) (n : Nat) (xs : List Int) (hid : 1 ≤ id ∧ id ≤ 2147483647) (hn : n ≤ 1000) : ∀ f ∈ partP id (if a1 then 1 else 0) n xs, frameOkB f = true := by
  intro f hf
  simp only [partP, List.mem_append, List.mem_singleton] at hf
  rcases hf with h | h
  · exact frs_ok id a1 n xs hid hn _ f h
  · subst h; exact (frx_ok id a1 n xs hid hn _).2
theorem partP_len (id fl : Int) (n : Nat) (xs : List Int) (hn : 0 < n) : (partP id fl n xs).length ≤ xs.length + 1 := by
  have := ceN_le (n := n) (L := xs.length) hn
  simp only [partP, List.length_append, frs_len, List.length_singleton]
  omega
def catN (fs : List TFrame) : Nat → List Int
  | 0 => []
  | k + 1 => catN fs k ++ frameB (fs.getD k (0, 0, 0, []))
theorem frameB_len (f : TFrame) (h : frameOkB f = true) : (frameB f).length ≤ 1009 := by
  simp only [frameOkB, Bool.and_eq_true, decide_eq_true_eq] at h
  simp only [frameB, List.length_append, big_len, List.length_cons, List.length_nil]
  omega
theorem catN_len (fs : List TFrame) (h : ∀ f ∈ fs, frameOkB f = true) : ∀ k, k ≤ fs.length → (catN fs k).length ≤ 1009 * k
  | 0, _ => by simp [catN]
  | k + 1, hk => by
    have h1 := catN_len fs h k (by omega)
    have h2 : fs.getD k (0, 0, 0, []) = fs[k] := by rw [List.getD_eq_getElem?_getD, List.getElem?_eq_getElem (by omega)]; rfl
    have h3 := frameB_len fs[k] (h _ (List.getElem_mem (by omega)))
    simp only [catN, List.length_append, h2]
    omega
theorem frameOk_len {f : TFrame} (h : frameOkB f = true) : f.2.2.2.length ≤ 1000 := by
  simp only [frameOkB, Bool.and_eq_true, decide_eq_true_eq] at h
  omega
theorem i_putFrames_eq (fs : List TFrame) (h : ∀ f ∈ fs, frameOkB f = true) (hl : fs.length ≤ 1000000000) : P_i_putFrames [] fs = some (catN fs fs.length, ()) := by
  simp only [P_i_putFrames, B_i_putFrames]
  refine loopO_count (L_i_putFrames_0 P_i_putFrame fs) (fun k => ((k : Int), catN fs k, ())) fs.length _ (fun k hk => ?_) ?_
  · have h1 : (k : Int) < (fs.length : Int) := by omega
    have h2 : (0 : Int) ≤ (k : Int) := by omega
    have h3 : rd kFrame fs (k : Int) = fs[k] := rd_nat (k := kFrame) hk
    have h4 : fs.getD k (0, 0, 0, []) = fs[k] := by rw [List.getD_eq_getElem?_getD, List.getElem?_eq_getElem (by omega)]; rfl
    have h5 := catN_len fs h k (by omega)
    have h6 := frameOk_len (h _ (List.getElem_mem hk))
    simp only [L_i_putFrames_0, dec_true h1, dec_true h2, cond_true, h3]
    rw [i_putFrame_eq _ _ (by omega), bO, w64 (by omega) (by omega)]
    simp only [catN, h4]
    rfl
  · have h1 : ¬ ((fs.length : Nat) : Int) < (fs.length : Int) := by omega
    simp only [L_i_putFrames_0, dec_false h1, cond_false]
theorem s_Frames_eq (fs : List TFrame) (h : ∀ f ∈ fs, frameOkB f = true) (hl : fs.length ≤ 1000000000) : P_s_l16Frames fs = some (catN fs fs.length, ()) := by
  simp only [P_s_l16Frames, B_s_l16Frames]
  refine loopO_count (L_s_l16Frames_0 P_s_PutFrame fs) (fun k => ((k : Int), catN fs k, ())) fs.length _ (fun k hk => ?_) ?_
  · have h1 : (k : Int) < (fs.length : Int) := by omega
    have h2 : (0 : Int) ≤ (k : Int) := by omega
    have h3 : rd kFrame fs (k : Int) = fs[k] := rd_nat (k := kFrame) hk
    have h4 : fs.getD k (0, 0, 0, []) = fs[k] := by rw [List.getD_eq_getElem?_getD, List.getElem?_eq_getElem (by omega)]; rfl
    have h5 := catN_len fs h k (by omega)
    have hk2 := h _ (List.getElem_mem hk)
    have h6 := frameOk_len hk2
    have h7 := frameB_len _ hk2
    simp only [L_s_l16Frames_0, dec_true h1, dec_true h2, cond_true, h3]
    rw [s_PutFrame_eq _ (by omega), if_pos hk2, bO, gA (by simp only []; omega), w64 (by omega) (by omega)]
    simp only [catN, h4]
    rfl
  · have h1 : ¬ ((fs.length : Nat) : Int) < (fs.length : Int) := by omega
    simp only [L_s_l16Frames_0, dec_false h1, cond_false]
set_option maxRecDepth 100000
set_option maxRecDepth 100000
/-- Fields that are marked from m on. -/
noncomputable def mfs (m : Int) (n : Nat) : List TField := (List.range n).map fun j => (mt (m + 2 * (j : Nat)), mt (m + 2 * (j : Nat) + 1))
theorem mfs_len (m : Int) (n : Nat) : (mfs m n).length = n := by simp [mfs]
theorem mfs_succ (m : Int) (n : Nat) : mfs m (n + 1) = mfs m n ++ [(mt (m + 2 * (n : Nat)), mt (m + 2 * (n : Nat) + 1))] := by
  simp [mfs, List.range_succ]
theorem markTable_eq (t : TTable) (m : Int) (h0 : 0 ≤ m) (h1 : m ≤ 1000000000000) (h2 : t.2.length ≤ 1000000000) : P_w_markTable t m = some (m + 2 * t.2.length, (t.1, mfs m t.2.length), ()) := by
  have key : P_w_markFieldS t.2 m = some (m + 2 * t.2.length, mfs m t.2.length, ()) := by
    obtain ⟨mm, fs⟩ := t
    simp only at h2 ⊢
    simp only [P_w_markFieldS, B_w_markFieldS]
    have := loopO_count (L_w_markFieldS_0 P_w_markText) (fun k => (m + 2 * (k : Nat), (k : Int), mfs m k ++ fs.drop k, ())) fs.length (m + 2 * fs.length, mfs m fs.length, ()) (fun k hk => by
      have hl : (mfs m k ++ fs.drop k).length = fs.length := by rw [List.length_append, mfs_len, List.length_drop]; omega
      have a1 : (k : Int) < ((mfs m k ++ fs.drop k).length : Int) := by omega
      have a2 : (0 : Int) ≤ (k : Int) := by omega
      have e1 : fs.drop k = fs[k] :: fs.drop (k + 1) := List.drop_eq_getElem_cons hk
      have hs : ∀ x : TField, (mfs m k ++ fs.drop k).set k x = mfs m k ++ x :: fs.drop (k + 1) := by
        intro x
        rw [e1, List.set_append_right _ _ (by rw [mfs_len]; omega), mfs_len, Nat.sub_self]
        rfl
      have hr : ∀ x : TField, rd kField (mfs m k ++ x :: fs.drop (k + 1)) (k : Int) = x := by
        intro x
        unfold rd
        rw [Int.toNat_natCast, List.getD_eq_getElem?_getD, List.getElem?_append_right (by rw [mfs_len]; omega), mfs_len, Nat.sub_self]
        rfl
      have hs2 : ∀ x y : TField, (mfs m k ++ x :: fs.drop (k + 1)).set k y = mfs m k ++ y :: fs.drop (k + 1) := by
        intro x y
        rw [List.set_append_right _ _ (by rw [mfs_len]; omega), mfs_len, Nat.sub_self]
        rfl
      have hl2 : ∀ x : TField, (mfs m k ++ x :: fs.drop (k + 1)).length = fs.length := by
        intro x
        rw [List.length_append, mfs_len, List.length_cons, List.length_drop]; omega
      simp only [L_w_markFieldS_0, dec_true a1, dec_true a2, cond_true]
      rw [markText_eq _ (by omega), w64 (n := m + 2 * (k : Int) + 1) (by omega) (by omega), markText_eq _ (by omega)]
      simp only [bindO, Int.toNat_natCast, hs, hr, hs2, hl2]
      rw [dec_true (by omega), cond_true, w64 (by omega) (by omega), w64 (by omega) (by omega), mfs_succ]
      simp only [List.append_assoc, List.singleton_append, List.cons_append, List.nil_append]
      rw [show m + 2 * (k : Int) + 1 + 1 = m + 2 * ((k + 1 : Nat) : Int) by omega]
      rfl) (by
      have a1 : ¬ ((fs.length : Nat) : Int) < ((mfs m fs.length).length : Int) := by rw [mfs_len]; omega
      simp only [L_w_markFieldS_0, List.drop_length, List.append_nil, dec_false a1, cond_false])
    simpa [mfs] using this
  simp only [P_w_markTable, B_w_markTable, key, bindO]
theorem heldTable_eq (x : Int) (n : Nat) (m : Int) (h0 : 0 ≤ m) (h1 : m ≤ 1000000000000) (h2 : n ≤ 1000000000) : P_w_heldTable (x, mfs m n) m = some (m + 2 * n, ()) := by
  have key : P_w_heldFieldS (mfs m n) m = some (m + 2 * n, ()) := by
    simp only [P_w_heldFieldS, B_w_heldFieldS]
    have := loopO_count (L_w_heldFieldS_0 P_w_markText (mfs m n)) (fun k => (m + 2 * (k : Nat), (k : Int), ())) n (m + 2 * n, ()) (fun k hk => by
      have a1 : (k : Int) < ((mfs m n).length : Int) := by rw [mfs_len]; omega
      have a2 : (0 : Int) ≤ (k : Int) := by omega
      have hr : rd kField (mfs m n) (k : Int) = (mt (m + 2 * (k : Nat)), mt (m + 2 * (k : Nat) + 1)) := by
        unfold rd mfs
        simp [List.getD_eq_getElem?_getD, hk]
      simp only [L_w_heldFieldS_0, dec_true a1, dec_true a2, cond_true, hr]
      rw [markText_eq _ (by omega), w64 (n := m + 2 * (k : Int) + 1) (by omega) (by omega), markText_eq _ (by omega)]
      simp only [bindO, beq_self_eq_true, Bool.not_true, cond_false]
      rw [w64 (by omega) (by omega), w64 (by omega) (by omega), show m + 2 * (k : Int) + 1 + 1 = m + 2 * ((k + 1 : Nat) : Int) by omega]
      rfl) (by
      have a1 : ¬ ((n : Nat) : Int) < ((mfs m n).length : Int) := by rw [mfs_len]; omega
      simp only [L_w_heldFieldS_0, dec_false a1, cond_false])
    simpa using this
  simp only [P_w_heldTable, B_w_heldTable, key, bindO]
  rw [dec_false (by omega)]
  rfl
theorem sm_szT : ∀ fs : List TField, szT fs ≤ 1000000000 → ∀ x ∈ fs, Sm maxLen kField x
  | [], _, x, hx => by simp at hx
  | f :: fs, h, x, hx => by
    have hp := szT_len fs
    have hf := ofF_pos f
    simp only [szT] at h
    rcases List.mem_cons.1 hx with e | e
    · subst e
      have : ofF x ≤ 1000000000 := by omega
      unfold ofF at this
      exact ⟨show x.1.size ≤ maxLen by simp only [maxLen]; omega, show x.2.size ≤ maxLen by simp only [maxLen]; omega⟩
    · exact sm_szT fs (by omega) x e



theorem connOk_eq (c : TConn) (h : Sm 1048576 kConn c) (hb : Byt c.2.1) : ∃ r, P_s_ConnOk c = some (r, ()) ∧ P_i_ConnOk c = some (r, ()) := by
  have hin : List.length c.2.1 ≤ 1048576 := (Sm.l (Sm.r h)).1
  have hst : List.length c.2.2.2.2.2.1 ≤ 1048576 := (Sm.l (Sm.r (Sm.r (Sm.r (Sm.r (Sm.r h)))))).1
  have hd : List.length c.2.2.2.1.2 ≤ 1048576 := (Sm.r (Sm.l (Sm.r (Sm.r (Sm.r h))))).1
  have he : List.length c.2.2.2.2.1.2 ≤ 1048576 := (Sm.r (Sm.l (Sm.r (Sm.r (Sm.r (Sm.r h)))))).1
  obtain ⟨g, hg⟩ := s_GatherOk_ok c.2.2.1
  obtain ⟨t1, ht1⟩ := s_TableOk_ok c.2.2.2.1 (by simp only [maxLen]; omega)
  obtain ⟨t2, ht2⟩ := s_TableOk_ok c.2.2.2.2.1 (by simp only [maxLen]; omega)
  simp only [P_s_ConnOk, B_s_ConnOk, P_i_ConnOk, B_i_ConnOk, gatherOk_eq, tableOk_eq, hg, ht1, ht2, l1In_eq, inRange_eq]
  rw [s_strs_eq c (by simp only [maxLen]; omega), i_strs_eq c (by simp only [maxLen]; omega), s_GetFrame_eq _ hb hin 0 (by omega), i_GetFrame_eq _ hb hin 0 (by omega)]
  have hz : decide (c.2.2.2.2.2.2.2 > 0) = (!decide (c.2.2.2.2.2.2.2 = 0) && decide (0 ≤ c.2.2.2.2.2.2.2)) := by
    by_cases h1 : c.2.2.2.2.2.2.2 = 0
    · rw [dec_false (by omega), dec_true h1]; rfl
    · by_cases h2 : 0 ≤ c.2.2.2.2.2.2.2
      · rw [dec_true (by omega), dec_false h1, dec_true h2]; rfl
      · rw [dec_false (by omega), dec_false h1, dec_false h2]; rfl
  have hr : decide (0 ≤ c.2.2.2.2.2.2.2 ∧ c.2.2.2.2.2.2.2 ≤ 20) = true → decide (0 ≤ c.2.2.2.2.2.2.2) = true := by
    intro q
    exact dec_true (of_decide_eq_true q).1
  have hl0 : decide ((List.length c.2.1 : Int) = 0) = !decide ((List.length c.2.1 : Int) > 0) := by
    by_cases h1 : (List.length c.2.1 : Int) > 0
    · rw [dec_true h1, dec_false (by omega)]; rfl
    · rw [dec_false h1, dec_true (by omega)]; rfl
  have hs0 : decide ((List.length c.2.2.2.2.2.1 : Int) = 0) = !decide ((List.length c.2.2.2.2.2.1 : Int) > 0) := by
    by_cases h1 : (List.length c.2.2.2.2.2.1 : Int) > 0
    · rw [dec_true h1, dec_false (by omega)]; rfl
    · rw [dec_false h1, dec_true (by omega)]; rfl
  rw [hz, hl0, hs0]
  simp only [bindO]
  revert hr
  generalize decide (0 ≤ c.1 ∧ c.1 ≤ 24) = b1
  generalize decide (0 ≤ c.2.2.2.2.2.2.1 ∧ c.2.2.2.2.2.2.1 ≤ 2147483647) = b2
  generalize decide (0 ≤ c.2.2.2.2.2.2.2 ∧ c.2.2.2.2.2.2.2 ≤ 20) = b3
  generalize decide (0 ≤ c.2.2.2.2.2.2.2) = b4
  generalize strsB c = b5
  generalize decide ((List.length c.2.1 : Int) > 1100) = b6
  generalize decide ((getFrame c.2.1 0).2.2.1 = 1) = b7
  generalize decide (c.1 < 24) = b8
  generalize decide ((List.length c.2.1 : Int) > 0) = b9
  generalize decide (c.2.2.2.2.2.2.2 = 0) = b10
  generalize decide ((List.length c.2.2.2.2.2.1 : Int) > 0) = b11
  generalize decide (c.2.2.1.1 = 0) = b12
  intro hr
  cases b1
  · exact ⟨_, rfl, rfl⟩
  cases g
  · exact ⟨_, rfl, rfl⟩
  cases t1
  · exact ⟨_, rfl, rfl⟩
  cases t2
  · exact ⟨_, rfl, rfl⟩
  cases b2
  · cases b5 <;> exact ⟨_, rfl, rfl⟩
  cases b5
  · exact ⟨_, rfl, rfl⟩
  cases b6
  · cases b3
    · exact ⟨_, rfl, rfl⟩
    · rw [hr rfl]
      cases b7 <;> cases b8 <;> cases b9 <;> cases b10 <;> cases b11 <;> cases b12 <;> exact ⟨_, rfl, rfl⟩
  · cases b3 <;> exact ⟨_, rfl, rfl⟩
set_option maxRecDepth 100000
theorem gA72 {R : Type} {n : Nat} {X : Option R} (h : n ≤ 1000000000000) : (bif decide (n ≤ 9223372036854775807) then bif decide (n * 72 ≤ 140737488355328) then X else none else none) = X := by
  rw [dec_true (by omega), dec_true (by omega)]; rfl
/-- Connections whose lists are small. -/
def ConnS (c : TConn) : Prop := c.2.1.length ≤ 2000000 ∧ c.2.2.1.2.2.length ≤ 2000000 ∧ c.2.2.2.1.2.length ≤ 2000000 ∧ c.2.2.2.2.1.2.length ≤ 2000000 ∧ c.2.2.2.2.2.1.length ≤ 2000000 ∧ ∀ x ∈ c.2.2.2.2.2.1, x.2.2.2.length ≤ 2000000
theorem l8Copy_eq (g : TGather) (h : g.2.2.length ≤ 2000000) : P_s_l8Copy g = some (g, ()) := by
  simp only [P_s_l8Copy, B_s_l8Copy]
  rw [gA (by simp; omega)]
  rfl
theorem copyGather_eq (g : TGather) (h : g.2.2.length ≤ 2000000) : P_i_copyGather g = some (g, ()) := by
  simp only [P_i_copyGather, B_i_copyGather, cloneB_eq g.2.2 (by omega), bindO]
theorem l16Copy_eq (c : TConn) (h : ConnS c) : P_s_l16Copy c = some (c, ()) := by
  obtain ⟨h1, h2, h3, h4, h5, h6⟩ := h
  simp only [P_s_l16Copy, B_s_l16Copy]
  rw [gA (by simp; omega)]
  simp only [l8Copy_eq _ h2, l4Copy_eq c.2.2.2.1 (by omega), l4Copy_eq c.2.2.2.2.1 (by omega), bO, List.nil_append]
  refine loopO_count (L_s_l16Copy_0 c) (fun k => ((k : Int), c.1, c.2.2.1.1, c.2.2.1.2.1, c.2.2.2.1.1, c.2.2.2.2.1.1, c.2.2.2.2.2.2.1, c.2.2.2.2.2.2.2, c.2.1, c.2.2.1.2.2, c.2.2.2.1.2, c.2.2.2.2.1.2, c.2.2.2.2.2.1.take k, ())) c.2.2.2.2.2.1.length (c, ()) (fun k hk => ?_) ?_
  · have a1 : (k : Int) < (c.2.2.2.2.2.1.length : Int) := by omega
    have a2 : (0 : Int) ≤ (k : Int) := by omega
    have a3 : rd kStr c.2.2.2.2.2.1 (k : Int) = c.2.2.2.2.2.1[k] := rd_nat (k := kStr) hk
    have a4 := h6 _ (List.getElem_mem hk)
    simp only [L_s_l16Copy_0, dec_true a1, dec_true a2, cond_true, a3, List.nil_append]
    rw [gA (by simp; omega), gA72 (by simp; omega), w64 (by omega) (by omega), List.take_succ_eq_append_getElem hk]
    rfl
  · have a1 : ¬ ((c.2.2.2.2.2.1.length : Nat) : Int) < (c.2.2.2.2.2.1.length : Int) := by omega
    simp only [L_s_l16Copy_0, dec_false a1, cond_false]
    rw [List.take_of_length_le (Nat.le_refl _)]
theorem copyConn_eq (c : TConn) (h : ConnS c) : P_i_copyConn c = some (c, ()) := by
  obtain ⟨h1, h2, h3, h4, h5, h6⟩ := h
  simp only [P_i_copyConn, B_i_copyConn, cloneB_eq c.2.1 (by omega), copyGather_eq _ h2, copyTable_eq c.2.2.2.1 (by omega), copyTable_eq c.2.2.2.2.1 (by omega), bO]
  refine loopO_count (L_i_copyConn_0 P_slices_Clone_byte_byte c) (fun k => ((k : Int), c.1, c.2.2.1.1, c.2.2.1.2.1, c.2.2.2.1.1, c.2.2.2.2.1.1, c.2.2.2.2.2.2.1, c.2.2.2.2.2.2.2, c.2.1, c.2.2.1.2.2, c.2.2.2.1.2, c.2.2.2.2.1.2, c.2.2.2.2.2.1.take k, ())) c.2.2.2.2.2.1.length (c, ()) (fun k hk => ?_) ?_
  · have a1 : (k : Int) < (c.2.2.2.2.2.1.length : Int) := by omega
    have a2 : (0 : Int) ≤ (k : Int) := by omega
    have a3 : rd kStr c.2.2.2.2.2.1 (k : Int) = c.2.2.2.2.2.1[k] := rd_nat (k := kStr) hk
    have a4 := h6 _ (List.getElem_mem hk)
    simp only [L_i_copyConn_0, dec_true a1, dec_true a2, cond_true, a3, cloneB_eq _ (show (c.2.2.2.2.2.1[k]).2.2.2.length ≤ 1000000000 by omega), bO]
    rw [gA72 (by simp; omega), w64 (by omega) (by omega), List.take_succ_eq_append_getElem hk]
    rfl
  · have a1 : ¬ ((c.2.2.2.2.2.1.length : Nat) : Int) < (c.2.2.2.2.2.1.length : Int) := by omega
    simp only [L_i_copyConn_0, dec_false a1, cond_false]
    rw [List.take_of_length_le (Nat.le_refl _)]
def idAt (c : TConn) (j : Nat) : Int := (rd kStr c.2.2.2.2.2.1 (j : Int)).1
theorem l16At_eq (c : TConn) (id : Int) (h : c.2.2.2.2.2.1.length ≤ 2000000) : ∃ i, i ≤ c.2.2.2.2.2.1.length ∧ (∀ j, j < i → idAt c j ≠ id) ∧ (i < c.2.2.2.2.2.1.length → idAt c i = id) ∧
    P_s_l16At c id = some (if i < c.2.2.2.2.2.1.length then (i : Int) else -1, ()) := by
  obtain ⟨i, h1, h2, h3, h4⟩ := loopO_find (L_s_l16At_0 c id) (fun j => ((j : Int), ())) c.2.2.2.2.2.1.length (fun j => (if j < c.2.2.2.2.2.1.length then (j : Int) else -1, ())) (fun j => !decide (idAt c j = id)) (fun j hj => by
    have a1 : (j : Int) < (c.2.2.2.2.2.1.length : Int) := by omega
    have a2 : (0 : Int) ≤ (j : Int) := by omega
    simp only [L_s_l16At_0, dec_true a1, dec_true a2, cond_true, if_pos hj]
    rw [w64 (by omega) (by omega)]
    unfold idAt
    cases decide ((rd kStr c.2.2.2.2.2.1 (j : Int)).1 = id) <;> rfl) (by
    have a1 : ¬ ((c.2.2.2.2.2.1.length : Nat) : Int) < (c.2.2.2.2.2.1.length : Int) := by omega
    simp only [L_s_l16At_0, dec_false a1, cond_false, if_neg (Nat.lt_irrefl _)])
  exact ⟨i, h1, fun j hj => by simpa using h2 j hj, fun hi => by simpa using h3 hi, h4⟩
theorem str_eq (c : TConn) (id : Int) (h : c.2.2.2.2.2.1.length ≤ 2000000) : ∃ i, i ≤ c.2.2.2.2.2.1.length ∧ (∀ j, j < i → idAt c j < id) ∧ (i < c.2.2.2.2.2.1.length → ¬ idAt c i < id) ∧
    P_i_Conn_str c id = some ((i : Int), (decide (i < c.2.2.2.2.2.1.length) && decide (idAt c i = id)), c, ()) := by
  obtain ⟨i, h1, h2, h3, h4⟩ := loopO_find (L_i_Conn_str_0 c id) (fun j => ((j : Int), ())) c.2.2.2.2.2.1.length (fun j => ((j : Int), ())) (fun j => decide (idAt c j < id)) (fun j hj => by
    have a1 : (j : Int) < (c.2.2.2.2.2.1.length : Int) := by omega
    have a2 : (0 : Int) ≤ (j : Int) := by omega
    simp only [L_i_Conn_str_0, dec_true a1, dec_true a2, cond_true]
    rw [w64 (by omega) (by omega)]
    unfold idAt
    cases decide ((rd kStr c.2.2.2.2.2.1 (j : Int)).1 < id) <;> rfl) (by
    have a1 : ¬ ((c.2.2.2.2.2.1.length : Nat) : Int) < (c.2.2.2.2.2.1.length : Int) := by omega
    simp only [L_i_Conn_str_0, dec_false a1, cond_false])
  refine ⟨i, h1, fun j hj => by simpa using h2 j hj, fun hi => by simpa using h3 hi, ?_⟩
  simp only [P_i_Conn_str, B_i_Conn_str]
  rw [show ((0 : Int), ()) = (fun j : Nat => ((j : Int), ())) 0 from rfl, h4]
  simp only [bO]
  by_cases hi : i < c.2.2.2.2.2.1.length
  · rw [dec_true (p := (i : Int) < (c.2.2.2.2.2.1.length : Int)) (by omega), dec_true (p := (0 : Int) ≤ (i : Int)) (by omega), dec_true hi]
    rfl
  · rw [dec_false (p := (i : Int) < (c.2.2.2.2.2.1.length : Int)) (by omega), dec_false hi]
    rfl
theorem strs_up {c : TConn} (h : strsB c = true) : ∀ i, i + 1 < c.2.2.2.2.2.1.length → idAt c i < idAt c (i + 1) := by
  intro i hi
  have h1 : firstN (strOkB c) 0 c.2.2.2.2.2.1.length = c.2.2.2.2.2.1.length := by
    simp only [strsB, Bool.and_eq_true, decide_eq_true_eq] at h
    exact h.1
  have h2 := firstN_goes (strOkB c) c.2.2.2.2.2.1.length 0 (i + 1) (by omega) (by omega)
  simp only [strOkB, Bool.and_eq_true, Bool.or_eq_true, decide_eq_true_eq, Bool.not_eq_true', decide_eq_false_iff_not] at h2
  have h3 := h2.1.1.2
  rw [show (((i + 1 : Nat) : Int) - 1) = (i : Int) by omega] at h3
  have h4 : ¬ idAt c (i + 1) ≤ idAt c i := by
    rcases h3 with q | q
    · omega
    · exact q
  omega
theorem strs_lt {c : TConn} (h : strsB c = true) : ∀ k i, i + k + 1 < c.2.2.2.2.2.1.length → idAt c i < idAt c (i + k + 1)
  | 0, i, hi => strs_up h i hi
  | k + 1, i, hi => by
    have h1 := strs_lt h k i (by omega)
    have h2 := strs_up h (i + k + 1) (by omega)
    rw [show i + (k + 1) + 1 = i + k + 1 + 1 by omega]
    omega
/-- Both find the same stream. -/
theorem at_eq (c : TConn) (id : Int) (h : c.2.2.2.2.2.1.length ≤ 2000000) (hs : strsB c = true) : ∃ i : Nat, ∃ has : Bool, (has = true → i < c.2.2.2.2.2.1.length ∧ idAt c i = id) ∧
    P_s_l16At c id = some (if has then (i : Int) else -1, ()) ∧ P_i_Conn_str c id = some ((i : Int), has, c, ()) := by
  obtain ⟨i1, a1, a2, a3, a4⟩ := l16At_eq c id h
  obtain ⟨i2, b1, b2, b3, b4⟩ := str_eq c id h
  refine ⟨i2, _, ?_, ?_, b4⟩
  · intro q
    simp only [Bool.and_eq_true, decide_eq_true_eq] at q
    exact q
  · rw [a4]
    by_cases h1 : i2 < c.2.2.2.2.2.1.length
    · by_cases h2 : idAt c i2 = id
      · have e : i1 = i2 := by
          rcases Nat.lt_trichotomy i1 i2 with q | q | q
          · have := b2 i1 q
            have := a3 (by omega)
            omega
          · exact q
          · exact absurd h2 (a2 i2 q)
        rw [e, dec_true h1, dec_true h2]
        simp [h1]
      · have e : ¬ i1 < c.2.2.2.2.2.1.length := by
          intro q
          have q3 := a3 q
          rcases Nat.lt_trichotomy i1 i2 with q2 | q2 | q2
          · have := b2 i1 q2; omega
          · rw [q2] at q3; exact h2 q3
          · have q4 := strs_lt hs (i1 - i2 - 1) i2 (by omega)
            rw [show i2 + (i1 - i2 - 1) + 1 = i1 by omega] at q4
            have := b3 h1
            omega
        rw [dec_false h2, if_neg e]
        simp
    · have e : ¬ i1 < c.2.2.2.2.2.1.length := by
        intro q
        have := b2 i1 (by omega)
        have := a3 q
        omega
      rw [dec_false h1, if_neg e]
      simp
theorem RespFields_eq (r : TResp) (h : respOkB r = true) : ∃ fs, P_s_RespFields r = some (fs, ()) ∧ P_i_RespFields r = some (fs, ()) ∧ fs.length ≤ 2 ∧ ∀ f ∈ fs, f.1.size ≤ 10000 ∧ f.2.size ≤ 10000 := by
  have h' := h
  simp only [respOkB, Bool.and_eq_true, decide_eq_true_eq] at h'
  obtain ⟨t1, t2⟩ := text_eq r.1 (by omega) (by omega)
  have p1 : (⟨#[58, 115, 116, 97, 116, 117, 115]⟩ : ByteArray).size = 7 := rfl
  have p2 : (⟨#[117, 112, 108, 111, 97, 100, 45, 111, 102, 102, 115, 101, 116]⟩ : ByteArray).size = 13 := rfl
  simp only [P_s_RespFields, B_s_RespFields, P_i_RespFields, B_i_RespFields, s_RespOk_eq, i_RespOk_eq, h, bO, Bool.not_true, cond_false, t1, itoa_eq r.1 (by omega) (by omega)]
  by_cases ho : r.2 ≥ 0
  · obtain ⟨t3, t4⟩ := text_eq r.2 (by omega) (by omega)
    simp only [dec_true ho, cond_true, t3, itoa_eq r.2 (by omega) (by omega), bO]
    rw [gA32 (by simp)]
    refine ⟨_, rfl, rfl, by simp, fun f hf => ?_⟩
    simp only [List.cons_append, List.nil_append, List.mem_cons, List.not_mem_nil, or_false] at hf
    rcases hf with rfl | rfl
    · exact ⟨by simp only [p1]; omega, by simp only []; omega⟩
    · exact ⟨by simp only [p2]; omega, by simp only []; omega⟩
  · simp only [dec_false ho, cond_false]
    refine ⟨_, rfl, rfl, by simp, fun f hf => ?_⟩
    simp only [List.mem_cons, List.not_mem_nil, or_false] at hf
    subst hf
    exact ⟨by simp only [p1]; omega, by simp only []; omega⟩
theorem connOk_true (c : TConn) (h : Sm 1048576 kConn c) (hb : Byt c.2.1) (hk : P_s_ConnOk c = some (true, ())) : P_s_TableOk c.2.2.2.2.1 = some (true, ()) ∧ strsB c = true ∧ 0 ≤ c.2.2.2.2.2.2.2 ∧ c.2.2.2.2.2.2.1 ≤ 2147483647 := by
  have hin : List.length c.2.1 ≤ 1048576 := (Sm.l (Sm.r h)).1
  have hst : List.length c.2.2.2.2.2.1 ≤ 1048576 := (Sm.l (Sm.r (Sm.r (Sm.r (Sm.r (Sm.r h)))))).1
  have hd : List.length c.2.2.2.1.2 ≤ 1048576 := (Sm.r (Sm.l (Sm.r (Sm.r (Sm.r h))))).1
  have he : List.length c.2.2.2.2.1.2 ≤ 1048576 := (Sm.r (Sm.l (Sm.r (Sm.r (Sm.r (Sm.r h)))))).1
  obtain ⟨g, hg⟩ := s_GatherOk_ok c.2.2.1
  obtain ⟨t1, ht1⟩ := s_TableOk_ok c.2.2.2.1 (by simp only [maxLen]; omega)
  obtain ⟨t2, ht2⟩ := s_TableOk_ok c.2.2.2.2.1 (by simp only [maxLen]; omega)
  simp only [P_s_ConnOk, B_s_ConnOk, hg, ht1, ht2, l1In_eq] at hk
  rw [s_strs_eq c (by simp only [maxLen]; omega), s_GetFrame_eq _ hb hin 0 (by omega)] at hk
  rw [ht2]
  simp only [bO] at hk
  generalize strsB c = b5 at hk ⊢
  by_cases hq2 : 0 ≤ c.2.2.2.2.2.2.1 ∧ c.2.2.2.2.2.2.1 ≤ 2147483647
  case neg =>
    exfalso
    rw [dec_false hq2] at hk
    revert hk
    cases decide (0 ≤ c.1 ∧ c.1 ≤ 24) <;> cases g <;> cases t1 <;> cases t2 <;> simp [bSr, bSl]
  rw [dec_true hq2] at hk
  by_cases hq : 0 ≤ c.2.2.2.2.2.2.2 ∧ c.2.2.2.2.2.2.2 ≤ 20
  · refine ⟨?_, ?_, hq.1, hq2.2⟩
    · cases t2 with
      | true => rfl
      | false =>
        exfalso
        revert hk
        cases decide (0 ≤ c.1 ∧ c.1 ≤ 24) <;> cases g <;> cases t1 <;> simp [bSr, bSl]
    · cases b5 with
      | true => rfl
      | false =>
        exfalso
        revert hk
        cases decide (0 ≤ c.1 ∧ c.1 ≤ 24) <;> cases g <;> cases t1 <;> cases t2 <;> simp [bSr, bSl]
  · exfalso
    rw [dec_false hq] at hk
    revert hk
    cases decide (0 ≤ c.1 ∧ c.1 ≤ 24) <;> cases g <;> cases t1 <;> cases t2 <;> cases b5 <;> cases decide ((List.length c.2.1 : Int) > 1100) <;> simp [bSr, bSl]
theorem AnswerWith_eq (c : TConn) (id : Int) (r : TResp) (hc : Sm 1048576 kConn c) (hb : Byt c.2.1) (hS : ConnS c) (hz : szT c.2.2.2.2.1.2 ≤ 10000000000000) (hl5 : c.2.2.2.2.2.1.length ≤ 1048576) :
    ∃ c' o has, P_s_AnswerWith_r98_0_r99_0 c id r = some (c', o, has, ()) ∧ P_i_AnswerWith c id r = some (c', o, has, ()) ∧ o.length ≤ 500000000000 ∧ Sm maxLen kConn c' ∧ ConnS c' ∧ c'.2.2.2.2.2.1.length ≤ 1048576 := by
  have hmax : ∀ {n : Nat}, n ≤ 1048576 → n ≤ maxLen := fun h => by simp only [maxLen]; omega
  have hcM : Sm maxLen kConn c := sm_mono (by simp only [maxLen]; omega) hc
  obtain ⟨h1, h2, h3, h4, h5, h6⟩ := hS
  have hcp := l16Copy_eq c ⟨h1, h2, h3, h4, h5, h6⟩
  have hci := copyConn_eq c ⟨h1, h2, h3, h4, h5, h6⟩
  obtain ⟨b, hbs, hbi⟩ := connOk_eq c hc hb
  obtain ⟨i1, a1, a2, a3, a4⟩ := l16At_eq c id h5
  obtain ⟨i2, b1, b2, b3, b4⟩ := str_eq c id h5
  by_cases hok : b = true
  · subst hok
    obtain ⟨k1, k2, k3, k4⟩ := connOk_true c hc hb hbs
    obtain ⟨i, has, q1, q2, q3⟩ := at_eq c id h5 k2
    have htk := ok_tok hz k1
    have hbad : (∃ x, P_s_AnswerWith_r98_0_r99_0 c id r = some (c, [], false, ()) ∧ P_i_AnswerWith c id r = some (c, [], false, ()) ∧ x = ()) → ∃ c' o has, P_s_AnswerWith_r98_0_r99_0 c id r = some (c', o, has, ()) ∧ P_i_AnswerWith c id r = some (c', o, has, ()) ∧ o.length ≤ 500000000000 ∧ Sm maxLen kConn c' ∧ ConnS c' ∧ c'.2.2.2.2.2.1.length ≤ 1048576 :=
      fun ⟨_, e1, e2, _⟩ => ⟨c, [], false, e1, e2, by simp, hcM, ⟨h1, h2, h3, h4, h5, h6⟩, hl5⟩
    cases has with
    | false =>
      refine hbad ⟨(), ?_, ?_, rfl⟩
      · simp only [P_s_AnswerWith_r98_0_r99_0, B_s_AnswerWith_r98_0_r99_0, hcp, q2, hbs, s_RespOk_eq, bO]
        cases decide (c.2.2.2.2.2.2.2 > 0) <;> cases respOkB r <;> rfl
      · simp only [P_i_AnswerWith, B_i_AnswerWith, hci, q3, bO]
        cases decide (c.2.2.2.2.2.2.2 = 0) <;> rfl
    | true =>
      obtain ⟨hi, hid⟩ := q1 rfl
      have d1 : decide ((i : Int) < 0) = false := dec_false (by omega)
      have d2 : decide ((0 : Int) ≤ (i : Int)) = true := dec_true (by omega)
      have d3 : decide ((i : Int) < (c.2.2.2.2.2.1.length : Int)) = true := dec_true (by omega)
      by_cases hd : c.2.2.2.2.2.2.2 = 0
      · have hd' : ¬ c.2.2.2.2.2.2.2 > 0 := by omega
        cases hst : decide ((rd kStr c.2.2.2.2.2.1 (i : Int)).2.1 = 2) with
        | false =>
          refine hbad ⟨(), ?_, ?_, rfl⟩
          · simp only [P_s_AnswerWith_r98_0_r99_0, B_s_AnswerWith_r98_0_r99_0, hcp, q2, hbs, s_RespOk_eq, bO, if_true, d1, d2, d3, hst, dec_false hd']
            cases respOkB r <;> rfl
          · simp only [P_i_AnswerWith, B_i_AnswerWith, hci, q3, bO, d1, d2, d3, hst, dec_true hd]
            rfl
        | true =>
          cases hr : respOkB r with
          | false =>
            refine hbad ⟨(), ?_, ?_, rfl⟩
            · simp only [P_s_AnswerWith_r98_0_r99_0, B_s_AnswerWith_r98_0_r99_0, hcp, q2, hbs, s_RespOk_eq, bO, if_true, d1, d2, d3, hst, dec_false hd', hr]
              rfl
            · simp only [P_i_AnswerWith, B_i_AnswerWith, hci, q3, bO, d1, d2, d3, hst, dec_true hd, i_RespOk_eq, hr]
              rfl
          | true =>
            obtain ⟨fs, f1, f2, f3, f4⟩ := RespFields_eq r hr
            obtain ⟨h, T, g1, g2, g3, g4⟩ := PutFields_eq c.2.2.2.2.1 fs htk (by omega) f4
            have hidr : 1 ≤ id ∧ id ≤ 2147483647 := by
              have e1 : firstN (strOkB c) 0 c.2.2.2.2.2.1.length = c.2.2.2.2.2.1.length := by
                simp only [strsB, Bool.and_eq_true, decide_eq_true_eq] at k2
                exact k2.1
              have e2 := firstN_goes (strOkB c) c.2.2.2.2.2.1.length 0 i (by omega) (by omega)
              simp only [strOkB, Bool.and_eq_true, decide_eq_true_eq] at e2
              have e3 : 1 ≤ idAt c i ∧ idAt c i ≤ c.2.2.2.2.2.2.1 := e2.1.1.1.2
              omega
            have hp1 := s_Part_eq id true h 1000 hidr (by omega)
            have hp2 := i_Part_eq id true h 1000 hidr (by omega)
            have hn : czN 1000 = 1000 := rfl
            rw [hn] at hp1 hp2
            have hpo := partP_ok id true 1000 h hidr (by omega)
            have hpl := partP_len id (if true = true then 1 else 0) 1000 h (by omega)
            have hcl := catN_len _ hpo _ (Nat.le_refl _)
            have hsf := s_Frames_eq _ hpo (by omega)
            have hif := i_putFrames_eq _ hpo (by omega)
            simp only [if_true] at hp1 hp2 hsf hif hcl hpl
            have e5 : IntKind.i64.wrap ((i : Int) + 1) = ((i + 1 : Nat) : Int) := by rw [w64 (by omega) (by omega)]; omega
            have d4 : decide ((i : Int) ≤ (c.2.2.2.2.2.1.length : Int)) = true := dec_true (by omega)
            have d5 : decide (((i + 1 : Nat) : Int) ≤ (c.2.2.2.2.2.1.length : Int)) = true := dec_true (by omega)
            have d6 : decide ((0 : Int) ≤ ((i + 1 : Nat) : Int)) = true := dec_true (by omega)
            have d7 : decide ((i : Int) < ((i + 1 : Nat) : Int)) = true := dec_true (by omega)
            have hdl : P_slices_Delete_impl_Str_impl_Str c.2.2.2.2.2.1 (i : Int) ((i + 1 : Nat) : Int) = some (c.2.2.2.2.2.1.take i ++ c.2.2.2.2.2.1.drop (i + 1), ()) := by
              rw [show P_slices_Delete_impl_Str_impl_Str = delFn from rfl]
              simp only [delFn, d2, d5, d7, cond_true, Int.toNat_natCast]
            have hszT := szT_len T
            have hTk : T.length ≤ 128 := tok_len g3
            have z1 : c.2.2.2.2.1.1 ≤ 4096 := g3.2.1
            have z2 : szT T ≤ c.2.2.2.2.1.1 := g3.2.2
            obtain ⟨m0, m1, m2, m3, m4, m5, m6⟩ := hcM
            refine ⟨(c.1, (c.2.1, (c.2.2.1, (c.2.2.2.1, ((c.2.2.2.2.1.1, T), (c.2.2.2.2.2.1.take i ++ c.2.2.2.2.2.1.drop (i + 1), c.2.2.2.2.2.2)))))), catN (partP id 1 1000 h) (partP id 1 1000 h).length, true, ?_, ?_, by omega, ?_, ?_⟩
            · simp only [P_s_AnswerWith_r98_0_r99_0, B_s_AnswerWith_r98_0_r99_0, hcp, q2, hbs, s_RespOk_eq, bO, bSl, if_true, d1, d2, d3, d4, d5, d6, e5, hst, dec_false hd', hr, Bool.not_true, cond_false, cond_true, f1, g1, hp1, hsf, Int.toNat_natCast, List.drop_zero, List.nil_append, List.take_length]
              rw [gA72 (by simp; omega), gA72 (by simp; omega)]
            · simp only [P_i_AnswerWith, B_i_AnswerWith, hci, q3, bO, bSl, d1, d2, d3, hst, dec_true hd, i_RespOk_eq, hr, hbi, Bool.not_true, cond_false, cond_true, f2, g2, e5, hdl, hp2, hif]
            · have hsub : ∀ x ∈ c.2.2.2.2.2.1.take i ++ c.2.2.2.2.2.1.drop (i + 1), x ∈ c.2.2.2.2.2.1 := fun x hx => by
                rcases List.mem_append.1 hx with q | q
                · exact List.mem_of_mem_take q
                · exact List.mem_of_mem_drop q
              refine ⟨m0, m1, m2, m3, ⟨trivial, (show T.length ≤ maxLen by simp only [maxLen]; omega), sm_szT T (by omega)⟩, ⟨(show (c.2.2.2.2.2.1.take i ++ c.2.2.2.2.2.1.drop (i + 1)).length ≤ maxLen by simp only [List.length_append, List.length_take, List.length_drop, maxLen]; omega), fun x hx => m5.2 x (hsub x hx)⟩, m6⟩
            · refine ⟨⟨h1, h2, h3, (show T.length ≤ 2000000 by omega), (show (c.2.2.2.2.2.1.take i ++ c.2.2.2.2.2.1.drop (i + 1)).length ≤ 2000000 by simp only [List.length_append, List.length_take, List.length_drop]; omega), fun x hx => ?_⟩, (show (c.2.2.2.2.2.1.take i ++ c.2.2.2.2.2.1.drop (i + 1)).length ≤ 1048576 by simp only [List.length_append, List.length_take, List.length_drop]; omega)⟩
              rcases List.mem_append.1 hx with q | q
              · exact h6 x (List.mem_of_mem_take q)
              · exact h6 x (List.mem_of_mem_drop q)
      · have hd' : c.2.2.2.2.2.2.2 > 0 := by omega
        refine hbad ⟨(), ?_, ?_, rfl⟩
        · simp only [P_s_AnswerWith_r98_0_r99_0, B_s_AnswerWith_r98_0_r99_0, hcp, q2, hbs, bO, dec_true hd']
          rfl
        · simp only [P_i_AnswerWith, B_i_AnswerWith, hci, q3, bO, dec_false hd]
          rfl
  · have hbf : b = false := by cases b <;> simp_all
    subst hbf
    refine ⟨c, [], false, ?_, ?_, by simp, hcM, ⟨h1, h2, h3, h4, h5, h6⟩, hl5⟩
    · simp only [P_s_AnswerWith_r98_0_r99_0, B_s_AnswerWith_r98_0_r99_0, hcp, a4, hbs, bO]
      rfl
    · simp only [P_i_AnswerWith, B_i_AnswerWith, hci, b4, hbi, i_RespOk_eq, bO]
      cases decide (c.2.2.2.2.2.2.2 = 0) with
      | false => rfl
      | true =>
        simp only [Bool.not_true, cond_false]
        by_cases hi : i2 < c.2.2.2.2.2.1.length
        · rw [dec_true hi, dec_true (p := (0 : Int) ≤ (i2 : Int)) (by omega), dec_true (p := (i2 : Int) < (c.2.2.2.2.2.1.length : Int)) (by omega)]
          cases decide (idAt c i2 = id) <;> cases decide ((rd kStr c.2.2.2.2.2.1 (i2 : Int)).2.1 = 2) <;> cases respOkB r <;> rfl
        · rw [dec_false hi]
          rfl
set_option maxRecDepth 100000
theorem mh_fieldT (t : TTable) (h : t.2.length ≤ 2000000) (m : Int) (h0 : 0 ≤ m) (h1 : m ≤ 900000000000) :
    ∃ m' y, P_w_markTable t m = some (m', (t.1, y), ()) ∧ m ≤ m' ∧ m' ≤ m + 4000000 ∧ ∀ a, P_w_heldTable (a, y) m = some (m', ()) :=
  ⟨_, _, markTable_eq t m h0 (by omega) (by omega), by omega, by omega, fun a => heldTable_eq a _ m h0 (by omega) (by omega)⟩
theorem mh_strS (a : List TStr) (h : a.length ≤ 1048576) : MH (P_w_markStrS a) P_w_heldStrS (cost (fun u => List.length u.2.2.2 + 5) a) := by
  refine mhS_gen (L_w_markStrS_0 P_w_markByteS P_w_markText) (L_w_heldStrS_0 P_w_heldByteS P_w_markText) (fun u => List.length u.2.2.2 + 5) a h (fun i hi m h0 h1 => ?_) (fun m b hb => by simp [L_w_markStrS_0, hb]) (fun m b hb => by simp [L_w_heldStrS_0, hb])
  obtain ⟨m1, d, e1, b1, b2, e2⟩ := mh_byteS a[i].2.2.2 (m + 1 + 1 + 1 + 1 + 1) (by omega) (by omega)
  have w1 : IntKind.i64.wrap (m + 1) = m + 1 := w64 (by omega) (by omega)
  have w2 : IntKind.i64.wrap (m + 1 + 1) = m + 1 + 1 := w64 (by omega) (by omega)
  have w3 : IntKind.i64.wrap (m + 1 + 1 + 1) = m + 1 + 1 + 1 := w64 (by omega) (by omega)
  have w4 : IntKind.i64.wrap (m + 1 + 1 + 1 + 1) = m + 1 + 1 + 1 + 1 := w64 (by omega) (by omega)
  have w5 : IntKind.i64.wrap (m + 1 + 1 + 1 + 1 + 1) = m + 1 + 1 + 1 + 1 + 1 := w64 (by omega) (by omega)
  have wi : IntKind.i64.wrap ((i : Int) + 1) = (i : Int) + 1 := w64 (by omega) (by omega)
  have g1 : (0 : Int) ≤ (i : Int) := by omega
  have ht := markText_eq (m + 1 + 1 + 1) (by omega)
  refine ⟨m1, (m, m + 1, (m + 1 + 1, mt (m + 1 + 1 + 1), m + 1 + 1 + 1 + 1), d), by omega, by omega, fun b hb e => ?_, fun b hb e => ?_⟩
  · have hib : i < b.length := by omega
    have g2 : (i : Int) < (b.length : Int) := by omega
    have hr : rd kStr b (i : Int) = a[i] := by rw [rd_nat (k := kStr) (xs := b) (by omega)]; exact e
    simp only [L_w_markStrS_0, bindO, List.length_set, dec_true g1, dec_true g2, cond_true, Int.toNat_natCast, w1, w2, w3, w4, w5, wi, List.set_set, rd_set (k := kStr) hib, hr, ht, e1]
  · have g2 : (i : Int) < (b.length : Int) := by omega
    have hr : rd kStr b (i : Int) = (m, m + 1, (m + 1 + 1, mt (m + 1 + 1 + 1), m + 1 + 1 + 1 + 1), d) := by rw [rd_nat (k := kStr) (xs := b) (by omega)]; exact e
    simp only [L_w_heldStrS_0, bindO, dec_true g1, dec_true g2, cond_true, w1, w2, w3, w4, w5, wi, hr, ht, e2]
    rw [dec_false (show ¬ m1 < 0 by omega)]
    simp
theorem cost_strs : ∀ a : List TStr, (∀ x ∈ a, x.2.2.2.length ≤ 2000000) → cost (fun u : TStr => List.length u.2.2.2 + 5) a ≤ 2000005 * a.length
  | [], _ => by simp [cost]
  | x :: a, h => by
    have h1 := cost_strs a fun y hy => h y (List.mem_cons_of_mem _ hy)
    have h2 := h x List.mem_cons_self
    simp only [cost, List.map_cons, List.sum_cons, List.length_cons] at h1 ⊢
    omega
theorem mh_conn (c : TConn) (h : ConnS c) (hl : c.2.2.2.2.2.1.length ≤ 1048576) : ∃ m' y1 y2 y3 y4 y5, P_w_markConn c 1 = some (m', (c.1, (y1, ((c.2.2.1.1, (c.2.2.1.2.1, y2)), ((c.2.2.2.1.1, y3), ((c.2.2.2.2.1.1, y4), (y5, c.2.2.2.2.2.2)))))), ()) ∧ 1 ≤ m' ∧ m' ≤ 4000000000000 ∧
    ∀ q1 q2 q3 q4 q5 q6, P_w_heldConn (q1, (y1, ((q2, (q3, y2)), ((q4, y3), ((q5, y4), (y5, q6)))))) 1 = some (m', ()) := by
  obtain ⟨h1, h2, h3, h4, h5, h6⟩ := h
  have hc := cost_strs _ h6
  obtain ⟨m1, y1, e1, a1, b1, f1⟩ := mh_byteS c.2.1 1 (by omega) (by omega)
  obtain ⟨m2, y2, e2, a2, b2, f2⟩ := mh_byteS c.2.2.1.2.2 m1 (by omega) (by omega)
  obtain ⟨m3, y3, e3, a3, b3, f3⟩ := mh_fieldT c.2.2.2.1 h3 m2 (by omega) (by omega)
  obtain ⟨m4, y4, e4, a4, b4, f4⟩ := mh_fieldT c.2.2.2.2.1 h4 m3 (by omega) (by omega)
  obtain ⟨m5, y5, e5, a5, b5, f5⟩ := mh_strS c.2.2.2.2.2.1 hl m4 (by omega) (by omega)
  refine ⟨m5, y1, y2, y3, y4, y5, ?_, by omega, by omega, fun q1 q2 q3 q4 q5 q6 => ?_⟩
  · simp only [P_w_markConn, B_w_markConn, P_w_markGather, B_w_markGather, e1, e2, e3, e4, e5, bO]
  · have d1 : decide (m1 < 0) = false := dec_false (by omega)
    have d2 : decide (m2 < 0) = false := dec_false (by omega)
    have d3 : decide (m3 < 0) = false := dec_false (by omega)
    have d4 : decide (m4 < 0) = false := dec_false (by omega)
    have d5 : decide (m5 < 0) = false := dec_false (by omega)
    simp only [P_w_heldConn, B_w_heldConn, P_w_heldGather, B_w_heldGather, f1, f2, f3, f4, f5, bO, d1, d2, d3, d4, d5, cond_false]
theorem szT_of (N : Nat) : ∀ fs : List TField, (∀ x ∈ fs, Sm N kField x) → szT fs ≤ (2 * N + 32 : Int) * fs.length
  | [], _ => by simp [szT]
  | f :: fs, h => by
    have h1 := szT_of N fs fun x hx => h x (List.mem_cons_of_mem _ hx)
    have h2 := h f List.mem_cons_self
    have h3 : f.1.size ≤ N := h2.l
    have h4 : f.2.size ≤ N := h2.r
    simp only [szT, ofF, List.length_cons]
    rw [show ((fs.length + 1 : Nat) : Int) = (fs.length : Int) + 1 by omega, Int.mul_add, Int.mul_one]
    omega
theorem exactAnswerWith (c : TConn) (id : Int) (r : TResp) (hw : Sm maxLen kConn c) (hb : Byt c.2.1) : P_w_FnExactAnswerWith c id r = some (true, ()) := by
  simp only [P_w_FnExactAnswerWith, B_w_FnExactAnswerWith]
  obtain ⟨l, e, h1, h2⟩ := szConn_ok c hw 1048576 (by omega) (by omega)
  rw [e]
  simp only [bO]
  by_cases hl : l < 0
  · rw [dec_true hl]; rfl
  rw [dec_false hl]
  have hs : Sm 1048576 kConn c := h2 (by omega)
  have hs' := hs
  obtain ⟨m0, m1, m2, m3, m4, m5, m6⟩ := hs'
  have l1 : List.length c.2.1 ≤ 1048576 := m1.1
  have l2 : List.length c.2.2.1.2.2 ≤ 1048576 := m2.2.2.1
  have l3 : List.length c.2.2.2.1.2 ≤ 1048576 := m3.2.1
  have l4 : List.length c.2.2.2.2.1.2 ≤ 1048576 := m4.2.1
  have l5 : List.length c.2.2.2.2.2.1 ≤ 1048576 := m5.1
  have l6 : ∀ x ∈ c.2.2.2.2.2.1, x.2.2.2.length ≤ 2000000 := fun x hx => by
    have : List.length x.2.2.2 ≤ 1048576 := (m5.2 x hx).2.2.2.1
    omega
  have hS : ConnS c := ⟨by omega, by omega, by omega, by omega, by omega, l6⟩
  have hz : szT c.2.2.2.2.1.2 ≤ 10000000000000 := by
    have := szT_of 1048576 c.2.2.2.2.1.2 m4.2.2
    omega
  obtain ⟨c', o, has, g1, g2, g3, g4, g5, g6⟩ := AnswerWith_eq c id r hs hb hS hz l5
  obtain ⟨n1, y1, y2, y3, y4, y5, k1, k2, k3, k4⟩ := mh_conn c hS l5
  obtain ⟨n2, z1, z2, z3, z4, z5, p1, p2, p3, p4⟩ := mh_conn c' g5 g6
  obtain ⟨n3, w, r1, r2, r3, r4⟩ := mh_byteS o n2 (by omega) (by omega)
  have q1 := eqConn_refl c hw
  have q2 := eqConn_refl c' g4
  have q3 := eqByteS_refl o (by simp only [maxLen]; omega)
  have hr : P_w_toResp r = some (r, ()) := rfl
  simp only [cond_false, toConn_eq c hs, hr, bO, g1, g2, q1, q2, q3, Bool.not_true, beq_self_eq_true, bSl, k1]
  rw [dec_false (show ¬ n1 < 0 by omega)]
  simp only [cond_false, bSl, p1, r1, bO, p4]
  rw [dec_false (show ¬ n2 < 0 by omega)]
  simp only [cond_false, r4, bO]
  rw [dec_false (show ¬ n3 < 0 by omega)]
  simp
end Go.Proofs.YthnfghmjipikhaaGreatDoor.Ev
