/- Marks of strings; a loop that ends at once. -/
import Derived.Test.YtiplpehengcinaaHp
import Derived.Test.YtiplpehengcinaaLp
import Derived.Laws.Strings
set_option linter.unusedVariables false
set_option linter.unusedSimpArgs false
namespace Go.Proofs.Ytiplpehengcinaa.Ev

theorem loopO_end {α β : Type} {f : α → Option (α ⊕ β)} {x : α} {z : β} (h : f x = some (.inr z)) : loopO f x = some z := by rw [loopO_eq, h]

theorem strOf_size (xs : List Int) : (strOf xs).size = xs.length := strOfNums_size xs
theorem app_size (a b : ByteArray) : (a ++ b).size = a.size + b.size := ByteArray.size_append

theorem markText_ok (k : Int) (h : k < 4611686018427387904) : ∃ s, P_w_markText k = some (s, ()) := by
  simp only [P_w_markText, B_w_markText]
  by_cases h0 : k ≤ 0
  · rw [dec_true h0]; exact ⟨_, rfl⟩
  rw [dec_false h0]
  obtain ⟨z, e, hz⟩ := loopO_ind L_w_markText_0 (fun l => l.1.toNat) (fun l => 0 ≤ l.1 ∧ (l.2.1.size : Int) + l.1 ≤ k) (fun z => (z.1.size : Int) ≤ k) (fun l hl => by
    obtain ⟨n, out, u⟩ := l
    simp only at hl ⊢
    simp only [L_w_markText_0]
    by_cases hp : n > 0
    · refine .inl ⟨(n.tdiv 10, strOf [IntKind.u8.wrap (IntKind.i64.wrap (48 + n.tmod 10))] ++ out, ()), ?_, ?_, ?_⟩
      · rw [dec_true hp]
        simp only [cond_true]
        rw [dec_false (by rw [strOf_size]; simp [IntKind.max, IntKind.signed, IntKind.bits]; omega)]
        simp only [cond_false]
        rw [w64 (n := n.tdiv 10) (by rw [Int.tdiv_eq_ediv_of_nonneg (by omega)]; omega) (by rw [Int.tdiv_eq_ediv_of_nonneg (by omega)]; omega)]
      · simp only
        rw [app_size, strOf_size, Int.tdiv_eq_ediv_of_nonneg (by omega)]
        simp only [List.length_singleton]
        omega
      · simp only
        rw [Int.tdiv_eq_ediv_of_nonneg (by omega)]
        omega
    · rw [dec_false hp]
      exact .inr ⟨_, rfl, by simp only; omega⟩) (k, ⟨#[]⟩, ()) (by
      constructor
      · simp only; omega
      · show ((0 : Nat) : Int) + k ≤ k
        omega)
  rw [e]
  simp only [bindO, cond_false]
  have h1 : (⟨#[109]⟩ : ByteArray).size = 1 := rfl
  rw [dec_false (by rw [h1]; simp [IntKind.max, IntKind.signed, IntKind.bits]; omega)]
  exact ⟨_, rfl⟩

noncomputable def mt (k : Int) : ByteArray := match P_w_markText k with
  | some (s, _) => s
  | none => ⟨#[]⟩
theorem markText_eq (k : Int) (h : k < 4611686018427387904) : P_w_markText k = some (mt k, ()) := by
  obtain ⟨s, hs⟩ := markText_ok k h
  unfold mt
  rw [hs]

noncomputable def markedS (m : Int) (n : Nat) : List ByteArray := (List.range n).map fun j => mt (m + (j : Nat))

theorem markStringS_eq (a : List ByteArray) (m : Int) (h0 : 0 ≤ m) (h : m + a.length < 4611686018427387904) : P_w_markStringS a m = some (m + a.length, markedS m a.length, ()) := by
  simp only [P_w_markStringS, B_w_markStringS]
  have key := loopO_count (L_w_markStringS_0 P_w_markText) (fun i => (m + (i : Int), (i : Int), markedS m i ++ a.drop i, ())) a.length (m + a.length, markedS m a.length, ()) (fun i hi => ?_) ?_
  · simpa [markedS] using key
  · have h1 : ((i : Int) < (a.length : Int)) := by omega
    have h2 : (0 : Int) ≤ (i : Int) := by omega
    have hl : (markedS m i ++ a.drop i).length = a.length := by simp [markedS]; omega
    simp only [L_w_markStringS_0, hl, dec_true h1, dec_true h2, cond_true]
    rw [markText_eq _ (by omega), w64 (by omega) (by omega), w64 (by omega) (by omega), Int.toNat_natCast]
    simp only [bindO]
    have : (markedS m i ++ a.drop i).set i (mt (m + (i : Int))) = markedS m (i + 1) ++ a.drop (i + 1) := by
      rw [List.set_append_right _ _ (by simp [markedS])]
      rw [show (markedS m i).length = i by simp [markedS], Nat.sub_self, List.drop_eq_getElem_cons hi, List.set_cons_zero]
      simp [markedS, List.range_succ]
    rw [this]
    simp only [Int.natCast_add, Int.natCast_one, Int.add_assoc]
  · simp [L_w_markStringS_0, markedS]

theorem heldStringS_eq (n : Nat) (m : Int) (h0 : 0 ≤ m) (h : m + n < 4611686018427387904) : P_w_heldStringS (markedS m n) m = some (m + n, ()) := by
  simp only [P_w_heldStringS, B_w_heldStringS]
  have hl : (markedS m n).length = n := by simp [markedS]
  have key := loopO_count (L_w_heldStringS_0 P_w_markText (markedS m n)) (fun i => (m + (i : Int), (i : Int), ())) n (m + n, ()) (fun i hi => ?_) ?_
  · simpa [markedS] using key
  · have h1 : ((i : Int) < (n : Int)) := by omega
    have h2 : (0 : Int) ≤ (i : Int) := by omega
    simp only [L_w_heldStringS_0, hl, dec_true h1, dec_true h2, cond_true]
    have hr : rd .str (markedS m n) (i : Int) = mt (m + (i : Int)) := by
      rw [rd_str (by rw [hl]; exact hi)]
      simp [markedS]
    rw [hr, markText_eq _ (by omega), w64 (by omega) (by omega), w64 (by omega) (by omega)]
    simp only [bindO, beq_self_eq_true, Bool.not_true, cond_false, Int.natCast_add, Int.natCast_one, Int.add_assoc]
  · simp [L_w_heldStringS_0, hl]
end Go.Proofs.Ytiplpehengcinaa.Ev
