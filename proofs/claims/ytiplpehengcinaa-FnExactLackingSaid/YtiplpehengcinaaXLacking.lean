/- The law FnExactLacking: its plain function always answers true. -/
import Derived.Test.YtiplpehengcinaaA8
set_option linter.unusedVariables false
set_option linter.unusedSimpArgs false
namespace Go.Proofs.Ytiplpehengcinaa.Ev
theorem exactLacking (w : TWorld) (hw : Wf kWorld w) : P_w_FnExactLacking w = some (true, ()) := by
  have hm : Sm maxLen kWorld w := sm_wf hw
  simp only [P_w_FnExactLacking, B_w_FnExactLacking]
  obtain ⟨r, e, h1, h2⟩ := szWorld_ok w hm 1048576 (by omega) (by omega)
  rw [e]
  simp only [bindO]
  by_cases hr : r < 0
  · rw [dec_true hr]; rfl
  rw [dec_false hr]
  have hs : Sm 1048576 kWorld w := h2 (by omega)
  obtain ⟨b, hb⟩ : ∃ b, P_s_Lacking w = some (b, ()) := (s_Lacking_eq w hs ▸ i_Lacking_ok w hs)
  have hi : P_i_Lacking w = some (b, ()) := (s_Lacking_eq w hs).trans hb
  simp only [cond_false, toWorld_eq w hs, hb, hi]
  rw [eqWorld_refl w hm]
  simp
end Go.Proofs.Ytiplpehengcinaa.Ev
