/- ConnOk and what it asks: gathers, tables, streams, numbers and frames of bytes. -/
import Derived.Test.YtiplpehengcinaaHp
import Derived.Test.YtiplpehengcinaaLp
import Derived.Test.YtiplpehengcinaaA5
set_option linter.unusedVariables false
set_option linter.unusedSimpArgs false
namespace Go.Proofs.Ytiplpehengcinaa.Ev

theorem inRange_l1In : P_i_inRange = P_s_l1In := rfl
theorem gatherOk_eq : P_i_GatherOk = P_s_GatherOk := rfl
theorem tableOk_eq : P_i_TableOk = P_s_TableOk := rfl

theorem s_GatherOk_ok (g : TGather) : ∃ b, P_s_GatherOk g = some (b, ()) := by
  simp only [P_s_GatherOk, B_s_GatherOk, l1In_eq, bindO]
  by_cases h1 : g.1 = 0
  · rw [dec_true h1]
    cases g.2.1 <;> exact ⟨_, rfl⟩
  · rw [dec_false h1]
    cases decide (1 ≤ g.1 ∧ g.1 ≤ 2147483647) <;> exact ⟨_, rfl⟩

theorem s_SizeOf_ok (t : TTable) (h : t.2.length ≤ maxLen) : ∃ b, P_s_SizeOf t = some (b, ()) := by
  obtain ⟨z, e, _⟩ := loopO_ind (L_s_SizeOf_0 P_s_l4Of t) (fun l => ((t.2.length : Int) - l.2.1).toNat) (fun l => 0 ≤ l.2.1) (fun _ => True) (fun l hl => by
    simp only [L_s_SizeOf_0]
    by_cases hi : l.2.1 < (t.2.length : Int)
    · simp only [dec_true hi, dec_true hl, cond_true, P_s_l4Of, B_s_l4Of, bindO]
      rw [w64 (n := l.2.1 + 1) (by omega) (by simp only [maxLen] at h; omega)]
      exact .inl ⟨_, rfl, by simp only; omega, by simp only; omega⟩
    · simp only [dec_false hi, cond_false]
      exact .inr ⟨_, rfl, trivial⟩) (0, 0, ()) (by simp)
  exact ⟨z.1, e⟩
theorem s_TableOk_ok (t : TTable) (h : t.2.length ≤ maxLen) : ∃ b, P_s_TableOk t = some (b, ()) := by
  obtain ⟨b, hb⟩ := s_SizeOf_ok t h
  simp only [P_s_TableOk, B_s_TableOk, l1In_eq, bindO, hb]
  cases decide (0 ≤ t.1 ∧ t.1 ≤ 4096) <;> exact ⟨_, rfl⟩

/-- One stream of a connection is right. -/
def strOkB (c : TConn) (i : Nat) : Bool :=
  decide ((rd kStr c.2.2.2.2.2.1 (i : Int)).1.tmod 2 = 1) && decide (1 ≤ (rd kStr c.2.2.2.2.2.1 (i : Int)).1 ∧ (rd kStr c.2.2.2.2.2.1 (i : Int)).1 ≤ c.2.2.2.2.2.2.1) &&
  (decide (i = 0) || !decide ((rd kStr c.2.2.2.2.2.1 (i : Int)).1 ≤ (rd kStr c.2.2.2.2.2.1 ((i : Int) - 1)).1)) &&
  (decide ((rd kStr c.2.2.2.2.2.1 (i : Int)).2.1 = 1) || decide ((rd kStr c.2.2.2.2.2.1 (i : Int)).2.1 = 2)) && !decide ((List.length (rd kStr c.2.2.2.2.2.1 (i : Int)).2.2.2 : Int) > 2000)

theorem strs_of {L : Int × Unit → Option ((Int × Unit) ⊕ (Unit ⊕ (Bool × Unit)))} {n : Nat} {go : Nat → Bool} (hs : ∀ i : Nat, i < n → L ((i : Int), ()) = bif go i then some (.inl (((i + 1 : Nat) : Int), ())) else some (.inr (.inr (false, ()))))
    (he : L ((n : Int), ()) = some (.inr (.inl ()))) (g : Unit → Option (Bool × Unit)) (b : Bool) (hg : g () = some (b, ())) : bindS (loopO L (0, ())) g = some (decide (firstN go 0 n = n) && b, ()) := by
  have h := loopO_first L (fun i => ((i : Int), ())) n (fun i => if i = n then .inl () else .inr (false, ())) go (fun i hi => by
    rw [hs i hi]
    cases go i with
    | true => rfl
    | false => simp only [Bool.false_eq_true, if_false, cond_false]; rw [if_neg (by omega)]) (by rw [he, if_pos rfl])
  have h' : loopO L (0, ()) = _ := h
  rw [h']
  by_cases hn : firstN go 0 n = n
  · rw [if_pos hn, dec_true hn]; simp [bindS, hg]
  · rw [if_neg hn, dec_false hn]; simp [bindS]

theorem s_strs_step (c : TConn) (h : c.2.2.2.2.2.1.length ≤ maxLen) (i : Nat) (hi : i < c.2.2.2.2.2.1.length) : L_s_l16Strs_0 P_s_l1In c ((i : Int), ()) = bif strOkB c i then some (.inl (((i + 1 : Nat) : Int), ())) else some (.inr (.inr (false, ()))) := by
  have h1 : ((i : Int) < (c.2.2.2.2.2.1.length : Int)) := by omega
  have h2 : (0 : Int) ≤ (i : Int) := by omega
  simp only [maxLen] at h
  simp only [L_s_l16Strs_0, dec_true h1, dec_true h2, cond_true, l1In_eq, bindO, strOkB]
  rw [w64 (n := (i : Int) + 1) (by omega) (by omega), w64 (n := (i : Int) - 1) (by omega) (by omega)]
  have e1 : ((i + 1 : Nat) : Int) = (i : Int) + 1 := by omega
  rw [e1]
  have hge : decide ((rd kStr c.2.2.2.2.2.1 ((i : Int) - 1)).1 ≥ (rd kStr c.2.2.2.2.2.1 (i : Int)).1) = decide ((rd kStr c.2.2.2.2.2.1 (i : Int)).1 ≤ (rd kStr c.2.2.2.2.2.1 ((i : Int) - 1)).1) := rfl
  rw [hge]
  by_cases hz : i = 0
  · have g1 : ¬ (i : Int) > 0 := by omega
    simp only [dec_false g1, dec_true hz, cond_false, Bool.true_or, Bool.and_true]
    generalize decide ((rd kStr c.2.2.2.2.2.1 (i : Int)).1.tmod 2 = 1) = x1
    generalize decide (1 ≤ (rd kStr c.2.2.2.2.2.1 (i : Int)).1 ∧ (rd kStr c.2.2.2.2.2.1 (i : Int)).1 ≤ c.2.2.2.2.2.2.1) = x2
    generalize decide ((rd kStr c.2.2.2.2.2.1 (i : Int)).2.1 = 1) = x4
    generalize decide ((rd kStr c.2.2.2.2.2.1 (i : Int)).2.1 = 2) = x5
    generalize decide ((List.length (rd kStr c.2.2.2.2.2.1 (i : Int)).2.2.2 : Int) > 2000) = x6
    cases x1 <;> cases x2 <;> cases x4 <;> cases x5 <;> cases x6 <;> rfl
  · have g1 : (i : Int) > 0 := by omega
    have g2 : (0 : Int) ≤ (i : Int) - 1 := by omega
    have g3 : (i : Int) - 1 < (c.2.2.2.2.2.1.length : Int) := by omega
    simp only [dec_true g1, dec_true g2, dec_true g3, dec_false hz, cond_true, Bool.false_or]
    generalize decide ((rd kStr c.2.2.2.2.2.1 (i : Int)).1.tmod 2 = 1) = x1
    generalize decide (1 ≤ (rd kStr c.2.2.2.2.2.1 (i : Int)).1 ∧ (rd kStr c.2.2.2.2.2.1 (i : Int)).1 ≤ c.2.2.2.2.2.2.1) = x2
    generalize decide ((rd kStr c.2.2.2.2.2.1 (i : Int)).1 ≤ (rd kStr c.2.2.2.2.2.1 ((i : Int) - 1)).1) = x3
    generalize decide ((rd kStr c.2.2.2.2.2.1 (i : Int)).2.1 = 1) = x4
    generalize decide ((rd kStr c.2.2.2.2.2.1 (i : Int)).2.1 = 2) = x5
    generalize decide ((List.length (rd kStr c.2.2.2.2.2.1 (i : Int)).2.2.2 : Int) > 2000) = x6
    cases x1 <;> cases x2 <;> cases x3 <;> cases x4 <;> cases x5 <;> cases x6 <;> rfl

theorem i_strs_step (c : TConn) (h : c.2.2.2.2.2.1.length ≤ maxLen) (i : Nat) (hi : i < c.2.2.2.2.2.1.length) : L_i_strsOk_0 P_i_inRange c ((i : Int), ()) = bif strOkB c i then some (.inl (((i + 1 : Nat) : Int), ())) else some (.inr (.inr (false, ()))) := by
  have h1 : ((i : Int) < (c.2.2.2.2.2.1.length : Int)) := by omega
  have h2 : (0 : Int) ≤ (i : Int) := by omega
  simp only [maxLen] at h
  simp only [L_i_strsOk_0, dec_true h1, dec_true h2, cond_true, inRange_eq, bindO, strOkB]
  rw [w64 (n := (i : Int) + 1) (by omega) (by omega), w64 (n := (i : Int) - 1) (by omega) (by omega)]
  have e1 : ((i + 1 : Nat) : Int) = (i : Int) + 1 := by omega
  rw [e1]
  by_cases hz : i = 0
  · have g1 : ¬ (i : Int) > 0 := by omega
    simp only [dec_false g1, dec_true hz, cond_false, Bool.true_or, Bool.and_true]
    generalize decide ((rd kStr c.2.2.2.2.2.1 (i : Int)).1.tmod 2 = 1) = x1
    generalize decide (1 ≤ (rd kStr c.2.2.2.2.2.1 (i : Int)).1 ∧ (rd kStr c.2.2.2.2.2.1 (i : Int)).1 ≤ c.2.2.2.2.2.2.1) = x2
    generalize decide ((rd kStr c.2.2.2.2.2.1 (i : Int)).2.1 = 1) = x4
    generalize decide ((rd kStr c.2.2.2.2.2.1 (i : Int)).2.1 = 2) = x5
    generalize decide ((List.length (rd kStr c.2.2.2.2.2.1 (i : Int)).2.2.2 : Int) > 2000) = x6
    cases x1 <;> cases x2 <;> cases x4 <;> cases x5 <;> cases x6 <;> rfl
  · have g1 : (i : Int) > 0 := by omega
    have g2 : (0 : Int) ≤ (i : Int) - 1 := by omega
    have g3 : (i : Int) - 1 < (c.2.2.2.2.2.1.length : Int) := by omega
    simp only [dec_true g1, dec_true g2, dec_true g3, dec_false hz, cond_true, Bool.false_or]
    generalize decide ((rd kStr c.2.2.2.2.2.1 (i : Int)).1.tmod 2 = 1) = x1
    generalize decide (1 ≤ (rd kStr c.2.2.2.2.2.1 (i : Int)).1 ∧ (rd kStr c.2.2.2.2.2.1 (i : Int)).1 ≤ c.2.2.2.2.2.2.1) = x2
    generalize decide ((rd kStr c.2.2.2.2.2.1 (i : Int)).1 ≤ (rd kStr c.2.2.2.2.2.1 ((i : Int) - 1)).1) = x3
    generalize decide ((rd kStr c.2.2.2.2.2.1 (i : Int)).2.1 = 1) = x4
    generalize decide ((rd kStr c.2.2.2.2.2.1 (i : Int)).2.1 = 2) = x5
    generalize decide ((List.length (rd kStr c.2.2.2.2.2.1 (i : Int)).2.2.2 : Int) > 2000) = x6
    cases x1 <;> cases x2 <;> cases x3 <;> cases x4 <;> cases x5 <;> cases x6 <;> rfl

def strsB (c : TConn) : Bool := decide (firstN (strOkB c) 0 c.2.2.2.2.2.1.length = c.2.2.2.2.2.1.length) && decide ((c.2.2.2.2.2.1.length : Int) ≤ 100)
theorem s_strs_eq (c : TConn) (h : c.2.2.2.2.2.1.length ≤ maxLen) : P_s_l16Strs c = some (strsB c, ()) := by
  simp only [P_s_l16Strs, B_s_l16Strs]
  exact strs_of (s_strs_step c h) (by simp [L_s_l16Strs_0]) _ _ rfl
theorem i_strs_eq (c : TConn) (h : c.2.2.2.2.2.1.length ≤ maxLen) : P_i_strsOk c = some (strsB c, ()) := by
  simp only [P_i_strsOk, B_i_strsOk]
  exact strs_of (i_strs_step c h) (by simp [L_i_strsOk_0]) _ _ rfl
end Go.Proofs.Ytiplpehengcinaa.Ev
