/- ConnOk of the program and of the reference, and the law FnExactConnOk. -/
import Derived.Test.YtiplpehengcinaaA11
set_option linter.unusedVariables false
set_option linter.unusedSimpArgs false
namespace Go.Proofs.Ytiplpehengcinaa.Ev

theorem connOk_eq (c : TConn) (h : Sm 1048576 kConn c) (hb : Byt c.2.1) : ∃ r, P_s_ConnOk c = some (r, ()) ∧ P_i_ConnOk c = some (r, ()) := by
  have hin : List.length c.2.1 ≤ 1048576 := (Sm.l (Sm.r h)).1
  have hst : List.length c.2.2.2.2.2.1 ≤ 1048576 := (Sm.l (Sm.r (Sm.r (Sm.r (Sm.r (Sm.r h)))))).1
  have hd : List.length c.2.2.2.1.2 ≤ 1048576 := (Sm.r (Sm.l (Sm.r (Sm.r (Sm.r h))))).1
  have he : List.length c.2.2.2.2.1.2 ≤ 1048576 := (Sm.r (Sm.l (Sm.r (Sm.r (Sm.r (Sm.r h)))))).1
  obtain ⟨g, hg⟩ := s_GatherOk_ok c.2.2.1
  obtain ⟨t1, ht1⟩ := s_TableOk_ok c.2.2.2.1 (by simp only [maxLen]; omega)
  obtain ⟨t2, ht2⟩ := s_TableOk_ok c.2.2.2.2.1 (by simp only [maxLen]; omega)
  simp only [P_s_ConnOk, B_s_ConnOk, P_i_ConnOk, B_i_ConnOk, gatherOk_eq, tableOk_eq, hg, ht1, ht2, l1In_eq, inRange_eq]
  rw [s_strs_eq c (by simp only [maxLen]; omega), i_strs_eq c (by simp only [maxLen]; omega), s_GetFrame_eq _ hb hin 0 (by omega), i_GetFrame_eq _ hb hin 0 (by omega)]
  have hz : decide (c.2.2.2.2.2.2.2 > 0) = (!decide (c.2.2.2.2.2.2.2 = 0) && decide (0 ≤ c.2.2.2.2.2.2.2)) := by
    by_cases h1 : c.2.2.2.2.2.2.2 = 0
    · rw [dec_false (by omega), dec_true h1]; rfl
    · by_cases h2 : 0 ≤ c.2.2.2.2.2.2.2
      · rw [dec_true (by omega), dec_false h1, dec_true h2]; rfl
      · rw [dec_false (by omega), dec_false h1, dec_false h2]; rfl
  have hr : decide (0 ≤ c.2.2.2.2.2.2.2 ∧ c.2.2.2.2.2.2.2 ≤ 20) = true → decide (0 ≤ c.2.2.2.2.2.2.2) = true := by
    intro q
    exact dec_true (of_decide_eq_true q).1
  have hl0 : decide ((List.length c.2.1 : Int) = 0) = !decide ((List.length c.2.1 : Int) > 0) := by
    by_cases h1 : (List.length c.2.1 : Int) > 0
    · rw [dec_true h1, dec_false (by omega)]; rfl
    · rw [dec_false h1, dec_true (by omega)]; rfl
  have hs0 : decide ((List.length c.2.2.2.2.2.1 : Int) = 0) = !decide ((List.length c.2.2.2.2.2.1 : Int) > 0) := by
    by_cases h1 : (List.length c.2.2.2.2.2.1 : Int) > 0
    · rw [dec_true h1, dec_false (by omega)]; rfl
    · rw [dec_false h1, dec_true (by omega)]; rfl
  rw [hz, hl0, hs0]
  simp only [bindO]
  revert hr
  generalize decide (0 ≤ c.1 ∧ c.1 ≤ 24) = b1
  generalize decide (0 ≤ c.2.2.2.2.2.2.1 ∧ c.2.2.2.2.2.2.1 ≤ 2147483647) = b2
  generalize decide (0 ≤ c.2.2.2.2.2.2.2 ∧ c.2.2.2.2.2.2.2 ≤ 20) = b3
  generalize decide (0 ≤ c.2.2.2.2.2.2.2) = b4
  generalize strsB c = b5
  generalize decide ((List.length c.2.1 : Int) > 1100) = b6
  generalize decide ((getFrame c.2.1 0).2.2.1 = 1) = b7
  generalize decide (c.1 < 24) = b8
  generalize decide ((List.length c.2.1 : Int) > 0) = b9
  generalize decide (c.2.2.2.2.2.2.2 = 0) = b10
  generalize decide ((List.length c.2.2.2.2.2.1 : Int) > 0) = b11
  generalize decide (c.2.2.1.1 = 0) = b12
  intro hr
  cases b1
  · exact ⟨_, rfl, rfl⟩
  cases g
  · exact ⟨_, rfl, rfl⟩
  cases t1
  · exact ⟨_, rfl, rfl⟩
  cases t2
  · exact ⟨_, rfl, rfl⟩
  cases b2
  · cases b5 <;> exact ⟨_, rfl, rfl⟩
  cases b5
  · exact ⟨_, rfl, rfl⟩
  cases b6
  · cases b3
    · exact ⟨_, rfl, rfl⟩
    · rw [hr rfl]
      cases b7 <;> cases b8 <;> cases b9 <;> cases b10 <;> cases b11 <;> cases b12 <;> exact ⟨_, rfl, rfl⟩
  · cases b3 <;> exact ⟨_, rfl, rfl⟩

theorem exactConnOk (c : TConn) (hw : Wf kConn c) : P_w_FnExactConnOk c = some (true, ()) := by
  have hm : Sm maxLen kConn c := sm_wf hw
  simp only [P_w_FnExactConnOk, B_w_FnExactConnOk]
  obtain ⟨r, e, h1, h2⟩ := szConn_ok c hm 1048576 (by omega) (by omega)
  rw [e]
  simp only [bindO]
  by_cases hr : r < 0
  · rw [dec_true hr]; rfl
  rw [dec_false hr]
  have hs : Sm 1048576 kConn c := h2 (by omega)
  obtain ⟨b, hb, hi⟩ := connOk_eq c hs (byt_wf hw.2.1.2)
  simp only [cond_false, toConn_eq c hs, hb, hi]
  rw [eqConn_refl c hm]
  simp
end Go.Proofs.Ytiplpehengcinaa.Ev
