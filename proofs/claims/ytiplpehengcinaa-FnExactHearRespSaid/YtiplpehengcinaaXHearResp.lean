/- The law FnExactHearResp: its plain function always answers true. -/
import Derived.Test.YtiplpehengcinaaA7
set_option linter.unusedVariables false
set_option linter.unusedSimpArgs false
namespace Go.Proofs.Ytiplpehengcinaa.Ev
theorem toResp_eq (r : Resp) : P_w_toResp r = some (r, ()) := rfl
theorem exactHearResp (c : Client) (r : Resp) (h : c.1.size ≤ maxLen) (h2 : c.2.1.length ≤ maxLen) : P_w_FnExactHearResp c r = some (true, ()) := by
  simp only [P_w_FnExactHearResp, B_w_FnExactHearResp]
  rw [szClient_eq c h h2]
  simp only [bindO]
  by_cases hs : (c.1.size : Int) + c.2.1.length ≤ 1048576
  · rw [if_pos hs, dec_false (by omega)]
    have hl := hearResp_len c r
    simp only [cond_false, toClient_eq c (by omega), toResp_eq, s_HearResp_eq c r h (by omega), i_HearResp_eq c r h (by omega), pe]
    rw [eqClient_refl _ (by simp only [maxLen]; omega), eqClient_refl _ h2, markClient_eq _ _ (by omega) (by omega)]
    simp only [Bool.not_true, cond_false]
    rw [dec_false (show ¬ (1 + (c.2.1.length : Int) < 0) by omega)]
    simp only [cond_false, bindS]
    rw [markClient_eq _ _ (by omega) (by omega)]
    simp only
    rw [heldClient_eq' _ _ (by omega) (by omega)]
    simp only
    rw [dec_false (show ¬ (1 + ((hearResp c r).2.1.length : Int) < 0) by omega)]
    simp
  · rw [if_neg hs]
    rfl
end Go.Proofs.Ytiplpehengcinaa.Ev
