/- The law FnExactNextReq: its plain function always answers true. -/
import Derived.Test.YtiplpehengcinaaA6
set_option linter.unusedVariables false
set_option linter.unusedSimpArgs false
namespace Go.Proofs.Ytiplpehengcinaa.Ev
theorem exactNextReq (c : Client) (h : c.1.size ≤ maxLen) (h2 : c.2.1.length ≤ maxLen) (hb : Byt c.2.1) : P_w_FnExactNextReq c = some (true, ()) := by
  simp only [P_w_FnExactNextReq, B_w_FnExactNextReq]
  rw [szClient_eq c h h2]
  simp only [bindO]
  by_cases hs : (c.1.size : Int) + c.2.1.length ≤ 1048576
  · rw [if_pos hs, dec_false (by omega)]
    have hl := nextReq_len c
    simp only [cond_false, toClient_eq c (by omega), s_NextReq_eq c h hb, i_NextReq_eq c h hb, eqReq_refl]
    rw [eqByteS_refl _ (by simp only [maxLen]; omega), eqClient_refl _ h2, markClient_eq _ _ (by omega) (by omega)]
    simp only [Bool.not_true, cond_false, beq_self_eq_true, bindS]
    rw [dec_false (show ¬ (1 + (c.2.1.length : Int) < 0) by omega)]
    simp only [cond_false]
    rw [markByteS_eq _ _ (by omega) (by omega)]
    simp only
    rw [heldByteS_eq _ _ (by omega) (by omega)]
    simp only
    rw [dec_false (show ¬ (1 + ((nextReq c).2.1.length : Int) < 0) by omega)]
    simp
  · rw [if_neg hs]
    rfl
end Go.Proofs.Ytiplpehengcinaa.Ev
