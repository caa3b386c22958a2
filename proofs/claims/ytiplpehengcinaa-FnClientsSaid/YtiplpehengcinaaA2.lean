/- ClientOk of the program and of the reference answer the same. -/
import Derived.Test.YtiplpehengcinaaA1
set_option linter.unusedVariables false
set_option linter.unusedSimpArgs false
namespace Go.Proofs.Ytiplpehengcinaa.Ev

theorem l1In_eq (a b c : Int) : P_s_l1In a b c = some (decide (b ≤ a ∧ a ≤ c), ()) := by
  simp only [P_s_l1In, B_s_l1In]
  by_cases h : b ≤ a <;> by_cases h2 : a ≤ c <;> simp [h, h2]
theorem inRange_eq (a b c : Int) : P_i_inRange a b c = some (decide (b ≤ a ∧ a ≤ c), ()) := l1In_eq a b c

def idCh (s : ByteArray) (i : Nat) : Bool := decide (97 ≤ bt s i ∧ bt s i ≤ 122) || decide (48 ≤ bt s i ∧ bt s i ≤ 57)
def idB (s : ByteArray) : Bool := (List.range s.size).all (idCh s) && decide (1 ≤ (s.size : Int) ∧ (s.size : Int) ≤ 8)

theorem l11Id_step (s : ByteArray) (h : s.size ≤ maxLen) (i : Nat) (hi : i < s.size) : L_s_l11Id_0 P_s_l1In s ((i : Int), ()) = if idCh s i then some (.inl (((i + 1 : Nat) : Int), ())) else some (.inr (.inr (false, ()))) := by
  have h1 : ((i : Int) < (s.size : Int)) := by omega
  have h2 : (0 : Int) ≤ (i : Int) := by omega
  simp only [L_s_l11Id_0, dec_true h1, dec_true h2, cond_true, bt_w64, l1In_eq, bindO]
  rw [w64 (by omega) (by simp only [maxLen] at h; omega)]
  unfold idCh
  cases decide (97 ≤ bt s i ∧ bt s i ≤ 122) <;> cases decide (48 ≤ bt s i ∧ bt s i ≤ 57) <;> simp

theorem idOk_step (s : ByteArray) (h : s.size ≤ maxLen) (i : Nat) (hi : i < s.size) : L_i_idOk_0 s ((i : Int), ()) = if idCh s i then some (.inl (((i + 1 : Nat) : Int), ())) else some (.inr (.inr (false, ()))) := by
  have h1 : ((i : Int) < (s.size : Int)) := by omega
  have h2 : (0 : Int) ≤ (i : Int) := by omega
  simp only [L_i_idOk_0, dec_true h1, dec_true h2, cond_true]
  rw [w64 (by omega) (by simp only [maxLen] at h; omega)]
  unfold idCh
  by_cases a : bt s i ≥ 97 <;> by_cases b : bt s i ≤ 122 <;> by_cases c : bt s i ≥ 48 <;> by_cases d : bt s i ≤ 57 <;> simp [a, b, c, d]

theorem id_of {s : ByteArray} {f : Int × Unit → Option ((Int × Unit) ⊕ (Unit ⊕ (Bool × Unit)))} (hs : ∀ i : Nat, i < s.size → f ((i : Int), ()) = if idCh s i then some (.inl (((i + 1 : Nat) : Int), ())) else some (.inr (.inr (false, ()))))
    (he : f ((s.size : Int), ()) = some (.inr (.inl ()))) (g : Unit → Option (Bool × Unit)) (hg : g () = some (decide (1 ≤ (s.size : Int) ∧ (s.size : Int) ≤ 8), ())) : bindS (loopO f (0, ())) g = some (idB s, ()) := by
  obtain ⟨i, h1, h2, h3, h4⟩ := loopO_find f (fun i => ((i : Int), ())) s.size (fun i => if i < s.size then .inr (false, ()) else .inl ()) (idCh s) (fun i hi => by
    simp only [if_pos hi]; exact hs i hi) (by simp only [Nat.lt_irrefl, if_false]; exact he)
  have h4' : loopO f (0, ()) = some (if i < s.size then .inr (false, ()) else .inl ()) := h4
  rw [h4']
  unfold idB
  by_cases hi : i < s.size
  · rw [if_pos hi]
    have : (List.range s.size).all (idCh s) = false := by
      rw [List.all_eq_false]
      exact ⟨i, List.mem_range.2 hi, by simp [h3 hi]⟩
    simp [bindS, this]
  · rw [if_neg hi]
    have : (List.range s.size).all (idCh s) = true := by
      rw [List.all_eq_true]
      intro j hj
      exact h2 j (by have := List.mem_range.1 hj; omega)
    simp only [bindS, this, hg, Bool.true_and]

theorem l11Id_eq (s : ByteArray) (h : s.size ≤ maxLen) : P_s_l11Id s = some (idB s, ()) := by
  simp only [P_s_l11Id, B_s_l11Id]
  exact id_of (l11Id_step s h) (by simp [L_s_l11Id_0]) _ (by simp only [l1In_eq, bindO])
theorem idOk_eq (s : ByteArray) (h : s.size ≤ maxLen) : P_i_idOk s = some (idB s, ()) := by
  simp only [P_i_idOk, B_i_idOk]
  exact id_of (idOk_step s h) (by simp [L_i_idOk_0]) _ (by simp only [inRange_eq, bindO])

def clientOkB (c : Client) : Bool := idB c.1 && decide ((c.2.1.length : Int) ≤ 400) && decide (1 ≤ c.2.2.1 ∧ c.2.2.1 ≤ 6) && decide (0 ≤ c.2.2.2 ∧ c.2.2.2 ≤ (c.2.1.length : Int))

theorem s_ClientOk_eq (c : Client) (h : c.1.size ≤ maxLen) : P_s_ClientOk c = some (clientOkB c, ()) := by
  simp only [P_s_ClientOk, B_s_ClientOk, l11Id_eq _ h, l1In_eq, bindO, clientOkB]
  cases idB c.1 <;> cases decide ((c.2.1.length : Int) ≤ 400) <;> cases decide (1 ≤ c.2.2.1 ∧ c.2.2.1 ≤ 6) <;> simp
theorem i_ClientOk_eq (c : Client) (h : c.1.size ≤ maxLen) : P_i_ClientOk c = some (clientOkB c, ()) := by
  simp only [P_i_ClientOk, B_i_ClientOk, idOk_eq _ h, inRange_eq, bindO, clientOkB]
  cases idB c.1 <;> cases decide ((c.2.1.length : Int) ≤ 400) <;> cases decide (1 ≤ c.2.2.1 ∧ c.2.2.1 ≤ 6) <;> simp

end Go.Proofs.Ytiplpehengcinaa.Ev
