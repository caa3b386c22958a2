/- The law FnExactSafe: its plain function always answers true. -/
import Derived.Test.YtmdbndbfhgdhfaaGreatXWorldOk
set_option linter.unusedVariables false
set_option linter.unusedSimpArgs false
namespace Go.Proofs.YtmdbndbfhgdhfaaGreat.Ev
theorem exactSafe (w : TWorld) (hw : Wf kWorldx w) : P_w_FnExactSafe w = some (true, ()) := by
  have hm : Sm maxLen kWorldx w := sm_wf hw
  simp only [P_w_FnExactSafe, B_w_FnExactSafe]
  obtain ⟨r, e, h1, h2⟩ := szWorld_ok w hm 1048576 (by omega) (by omega)
  rw [e]
  simp only [bindO]
  by_cases hr : r < 0
  · rw [dec_true hr]; rfl
  rw [dec_false hr]
  have hs : Sm 1048576 kWorldx w := h2 (by omega)
  obtain ⟨b, hb, hi⟩ := worldOk_eq w (sm_wor hs)
  obtain ⟨n, hn⟩ := s_NoneFails_ok w hs
  have hn' : P_i_NoneFails w = some (n, ()) := (i_NoneFails_eq w).trans hn
  have q1 := s_Begins_eq w hs
  have q1' := i_Begins_eq w hs (bytW_wf hw)
  have e1 : P_i_Begins w = P_s_Begins w := q1'.trans q1.symm
  obtain ⟨b1, hb1⟩ : ∃ b, P_s_Begins w = some (b, ()) := ⟨_, q1⟩
  obtain ⟨b2, hb2⟩ : ∃ b, P_s_NotLost w = some (b, ()) := ⟨_, s_NotLost_eq w hs⟩
  have hb2' : P_i_NotLost w = some (b2, ()) := (notLost_eq w hs).trans hb2
  obtain ⟨b3, hb3⟩ : ∃ b, P_s_Ends w = some (b, ()) := ⟨_, s_Ends_eq w hs⟩
  have hb3' : P_i_Ends w = some (b3, ()) := ((i_Ends_eq w hs).trans (s_Ends_eq w hs).symm).trans hb3
  have hb1' : P_i_Begins w = some (b1, ()) := e1.trans hb1
  have hsafe : ∃ k, P_s_Safe w = some (k, ()) ∧ P_i_Safe w = some (k, ()) := by
    simp only [P_s_Safe, B_s_Safe, P_i_Safe, B_i_Safe, hb, hi, hb1, hb1', hb2, hb2', hb3, hb3', hn, hn', bindO]
    cases b <;> cases b1 <;> cases b2 <;> cases b3 <;> cases n <;> exact ⟨_, rfl, rfl⟩
  obtain ⟨k, hk, hk'⟩ := hsafe
  simp only [cond_false, toWorld_eq w hs, hk, hk']
  rw [eqWorld_refl w hm]
  simp
end Go.Proofs.YtmdbndbfhgdhfaaGreat.Ev
