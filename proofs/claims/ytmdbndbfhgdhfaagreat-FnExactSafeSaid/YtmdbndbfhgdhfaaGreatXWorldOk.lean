/- The law FnExactWorldOk: its plain function always answers true. -/
import Derived.Test.YtmdbndbfhgdhfaaGreatC6
set_option linter.unusedVariables false
set_option linter.unusedSimpArgs false
namespace Go.Proofs.YtmdbndbfhgdhfaaGreat.Ev
theorem sm_wor {w : TWorld} (h : Sm 1048576 kWorldx w) : WorS w :=
  ⟨sm_secs (Nat.le_refl _) (Sm.l (Sm.l (Sm.l (Sm.l h)))), (Sm.r (Sm.l h)).1, ⟨(Sm.l (Sm.r h)).1, fun c hc => by
    have h1 : Sm 1048576 kClient c := (Sm.l (Sm.r h)).2 c hc
    have h2 : c.1.size ≤ 1048576 := Sm.l h1
    simp only [maxLen]; omega⟩, ⟨(Sm.l (Sm.r (Sm.r (Sm.r h)))).1, fun a ha => by
    have h1 : Sm 1048576 kWant a := (Sm.l (Sm.r (Sm.r (Sm.r h)))).2 a ha
    have h2 : a.2.1.2.1.size ≤ 1048576 := Sm.l (Sm.r (Sm.l (Sm.r h1)))
    simp only [maxLen]; omega⟩, (Sm.l (Sm.r (Sm.r (Sm.r (Sm.r h))))).1⟩
theorem exactWorldOk (w : TWorld) (hw : Wf kWorldx w) : P_w_FnExactWorldOk w = some (true, ()) := by
  have hm : Sm maxLen kWorldx w := sm_wf hw
  simp only [P_w_FnExactWorldOk, B_w_FnExactWorldOk]
  obtain ⟨r, e, h1, h2⟩ := szWorld_ok w hm 1048576 (by omega) (by omega)
  rw [e]
  simp only [bindO]
  by_cases hr : r < 0
  · rw [dec_true hr]; rfl
  rw [dec_false hr]
  have hs : Sm 1048576 kWorldx w := h2 (by omega)
  obtain ⟨b, hb, hi⟩ := worldOk_eq w (sm_wor hs)
  simp only [cond_false, toWorld_eq w hs, hb, hi]
  rw [eqWorld_refl w hm]
  simp
end Go.Proofs.YtmdbndbfhgdhfaaGreat.Ev
