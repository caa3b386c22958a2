/- The law FnExactServerOk: its plain function always answers true. -/
import Derived.Test.YtehbegmomfcmhaaC3
set_option linter.unusedVariables false
set_option linter.unusedSimpArgs false
namespace Go.Proofs.Ytehbegmomfcmhaa.Ev
theorem exactServerOk (x : TServer) (hw : Wf kServerx x) : P_w_FnExactServerOk x = some (true, ()) := by
  have hm : Sm maxLen kServerx x := sm_wf hw
  simp only [P_w_FnExactServerOk, B_w_FnExactServerOk]
  obtain ⟨r, e, h1, h2⟩ := szServer_ok x hm 1048576 (by omega) (by omega)
  rw [e]
  simp only [bindO]
  by_cases hr : r < 0
  · rw [dec_true hr]; rfl
  rw [dec_false hr]
  have hs : Sm 1048576 kServerx x := h2 (by omega)
  obtain ⟨b, hb, hi, _⟩ := serverOk_eq x (sm_secs (Nat.le_refl _) (Sm.l (Sm.l (Sm.l hs)))) (Sm.r hs).1
  simp only [cond_false, toServer_eq x hs, hb, hi]
  rw [eqServer_refl x hm]
  simp
end Go.Proofs.Ytehbegmomfcmhaa.Ev
