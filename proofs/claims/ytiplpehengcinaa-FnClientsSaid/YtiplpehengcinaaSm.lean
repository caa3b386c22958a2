/- How long data is: sizes, copies and equality of lists, whatever their elements are. -/
import Derived.Test.YtiplpehengcinaaPl
set_option linter.unusedVariables false
set_option linter.unusedSimpArgs false
namespace Go.Proofs.Ytiplpehengcinaa.Ev

def Sm (N : Nat) : (k : K) → k.T → Prop
  | .int _, _ => True
  | .bool, _ => True
  | .str, s => s.size ≤ N
  | .sl _ k, xs => xs.length ≤ N ∧ ∀ x ∈ xs, Sm N k x
  | .rs _ k, xs => xs.length ≤ N ∧ ∀ x ∈ xs, Sm N k x
  | .pair a b, x => Sm N a x.1 ∧ Sm N b x.2

theorem sm_wf : ∀ {k : K} {x : k.T}, Wf k x → Sm maxLen k x
  | .int _, _, _ => trivial
  | .bool, _, _ => trivial
  | .str, _, h => h
  | .sl _ _, _, h => ⟨h.1, fun x hx => sm_wf (h.2 x hx)⟩
  | .rs _ _, _, h => ⟨h.1, fun x hx => sm_wf (h.2 x hx)⟩
  | .pair _ _, _, h => ⟨sm_wf h.1, sm_wf h.2⟩

theorem Sm.l {N : Nat} {a b : K} {x : (K.pair a b).T} (h : Sm N (.pair a b) x) : Sm N a x.1 := h.1
theorem Sm.r {N : Nat} {a b : K} {x : (K.pair a b).T} (h : Sm N (.pair a b) x) : Sm N b x.2 := h.2
theorem Sm.len {N e : Nat} {k : K} {xs : (K.sl e k).T} (h : Sm N (.sl e k) xs) : List.length xs ≤ N := h.1
theorem Sm.el {N e : Nat} {k : K} {xs : (K.sl e k).T} (h : Sm N (.sl e k) xs) : ∀ x, x ∈ (show List k.T from xs) → Sm N k x := h.2

def SzOk (P : Int → Option (Int × Unit)) (S : Prop) : Prop := ∀ l : Int, 0 ≤ l → l ≤ 1048576 → ∃ r, P l = some (r, ()) ∧ r ≤ l ∧ (0 ≤ r → S)

theorem szS_gen {T : Type} (f : T → Int → Option (Int × Unit)) (S : T → Prop) (L : Int × Int × Unit → Option ((Int × Int × Unit) ⊕ (Int × Unit))) (a : List T) (hn : a.length ≤ maxLen) (hf : ∀ x ∈ a, SzOk (f x) (S x))
    (hs : ∀ (i : Nat) (hi : i < a.length) (l : Int), L (l, (i : Int), ()) = bindO (f a[i] l) fun c => bif decide (c.1 < 0) then some (.inr (-1, ())) else some (.inl (c.1, IntKind.i64.wrap ((i : Int) + 1), ())))
    (he : ∀ l, L (l, (a.length : Int), ()) = some (.inr (l, ()))) : SzOk (fun l => loopO L (l, 0, ())) (∀ x ∈ a, S x) := by
  have key : ∀ k i, i + k = a.length → ∀ l : Int, 0 ≤ l → l ≤ 1048576 → ∃ r, loopO L (l, (i : Int), ()) = some (r, ()) ∧ r ≤ l ∧ (0 ≤ r → ∀ j (hj : j < a.length), i ≤ j → S a[j]) := by
    intro k
    induction k with
    | zero =>
      intro i hi l h0 h1
      obtain rfl : i = a.length := by omega
      exact ⟨l, by rw [loopO_eq, he], Int.le_refl _, fun _ j hj hi => by omega⟩
    | succ k ih =>
      intro i hi l h0 h1
      have hlt : i < a.length := by omega
      obtain ⟨r, e, h2, h3⟩ := hf a[i] (List.getElem_mem hlt) l h0 h1
      rw [loopO_eq, hs i hlt, e]
      simp only [bindO]
      by_cases hr : r < 0
      · rw [dec_true hr]
        exact ⟨-1, rfl, by omega, fun h => by omega⟩
      · rw [dec_false hr]
        simp only [cond_false]
        rw [w64 (by omega) (by simp only [maxLen] at hn; omega)]
        obtain ⟨r', e', h4, h5⟩ := ih (i + 1) (by omega) r (by omega) (by omega)
        refine ⟨r', by simpa using e', by omega, fun h j hj hij => ?_⟩
        by_cases hji : j = i
        · subst hji; exact h3 (by omega)
        · exact h5 h j hj (by omega)
  intro l h0 h1
  obtain ⟨r, e, h2, h3⟩ := key a.length 0 (by omega) l h0 h1
  refine ⟨r, by simpa using e, h2, fun h x hx => ?_⟩
  obtain ⟨j, hj, rfl⟩ := List.getElem_of_mem hx
  exact h3 h j hj (by omega)

theorem eqS_gen (L : Int × Unit → Option ((Int × Unit) ⊕ (Bool × Unit))) (n : Nat) (hn : n ≤ maxLen) (hs : ∀ i : Nat, i < n → L ((i : Int), ()) = some (.inl (IntKind.i64.wrap ((i : Int) + 1), ())))
    (he : L ((n : Int), ()) = some (.inr (true, ()))) : loopO L (0, ()) = some (true, ()) := by
  refine loopO_count L (fun i => ((i : Int), ())) n (true, ()) (fun i hi => ?_) he
  rw [hs i hi, w64 (by omega) (by simp only [maxLen] at hn; omega)]
  rfl

theorem toS_gen {T : Type} (L : Int × List T × Unit → Option ((Int × List T × Unit) ⊕ (List T × Unit))) (a : List T) (z : T) (hn : a.length ≤ maxLen)
    (hs : ∀ (i : Nat) (hi : i < a.length) (b : List T), b.length = a.length → L ((i : Int), b, ()) = some (.inl (IntKind.i64.wrap ((i : Int) + 1), b.set i a[i], ())))
    (he : ∀ b, L ((a.length : Int), b, ()) = some (.inr (b, ()))) : loopO L (0, List.replicate a.length z, ()) = some (a, ()) := by
  have key := loopO_count L (fun i => ((i : Int), a.take i ++ List.replicate (a.length - i) z, ())) a.length (a, ()) (fun i hi => ?_) ?_
  · simpa using key
  · have hl : (a.take i ++ List.replicate (a.length - i) z).length = a.length := by simp; omega
    rw [hs i hi _ hl, w64 (by omega) (by simp only [maxLen] at hn; omega)]
    have : (a.take i ++ List.replicate (a.length - i) z).set i a[i] = a.take (i + 1) ++ List.replicate (a.length - (i + 1)) z := by
      rw [List.set_append_right _ _ (by simp; omega)]
      rw [List.take_succ_eq_append_getElem hi, List.append_assoc]
      congr 1
      rw [show (a.take i).length = i by simp; omega, Nat.sub_self, show a.length - i = (a.length - (i + 1)) + 1 by omega, List.replicate_succ]
      rfl
    rw [this]
    rfl
  · rw [he]
    simp
end Go.Proofs.Ytiplpehengcinaa.Ev
