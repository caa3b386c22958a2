/- The law FnExactCrashServer: its plain function always answers true. -/
import Derived.Test.YtmdbndbfhgdhfaaGreatXSyncAll
set_option linter.unusedVariables false
set_option linter.unusedSimpArgs false
namespace Go.Proofs.YtmdbndbfhgdhfaaGreat.Ev
theorem secs_sm {N e : Nat} {l : List ByteArray} (hN : 1048576 ≤ N) (h : Secs l) : Sm N (.sl e .str) l := ⟨by have := h.1; exact Nat.le_trans this hN, fun s hs => by have := h.2 s hs; exact Nat.le_trans this hN⟩
theorem ups_sm {N e : Nat} {us : List TUp} (hN : 2000000000 ≤ N) (h : Ups us) : Sm N (.sl e kUp) us := by
  have hl := h.2.1
  refine ⟨by show us.length ≤ N; omega, fun u hu => ?_⟩
  have hu2 := h.2.2 u hu
  have h1 := ups_dat h u hu
  refine ⟨?_, trivial, ⟨?_, fun y hy => trivial⟩, trivial⟩
  · show u.1.size ≤ N
    have := hu2.2.2.1
    omega
  · show List.length u.2.2.1 ≤ N
    omega
theorem crash_eq (x : TServer) (k : List Bool) (h : Sm 1048576 kServerx x) : ∃ y b, P_s_CrashServer_r99_0 x k = some (y, b, ()) ∧ P_i_CrashServer x k = some (y, b, ()) ∧ Sm maxLen kServerx y ∧ ServS y := by
  have hM : (1048576 : Nat) ≤ maxLen := by simp only [maxLen]; omega
  have hS := sm_serv (Nat.le_refl _) h
  obtain ⟨b, hs, hi, hb⟩ := serverOk_eq x hS.1.1.1 hS.2
  simp only [P_s_CrashServer_r99_0, B_s_CrashServer_r99_0, P_i_CrashServer, B_i_CrashServer, s_copyServer_eq x hS, i_copyServer_eq x hS, hs, hi, bindO]
  cases b with
  | false => exact ⟨x, false, rfl, rfl, sm_mono hM h, hS⟩
  | true =>
    obtain ⟨d, f1, f2, f3⟩ := fall_eq x.1.1 k hS.1.1
    obtain ⟨st, ok, o1, o2, o3, o4⟩ := open_eq d f3
    simp only [Bool.not_true, cond_false, cond_true, f1, o1, P_i_Server_crash, B_i_Server_crash, f2, o2, bindO]
    cases ok with
    | false => exact ⟨x, false, rfl, rfl, sm_mono hM h, hS⟩
    | true =>
      have hup := ups_sm (e := 0) (N := maxLen) (by simp only [maxLen]; omega) o4
      refine ⟨(st, []), true, rfl, rfl, ⟨⟨⟨secs_sm hM o3.1, secs_sm hM o3.2⟩, trivial, trivial, hup⟩, by simp [Sm]⟩, ⟨o3, by have := o4.2.1; show List.length st.2.2.2 ≤ _; omega, ups_dat o4⟩, by simp⟩

theorem exactCrashServer (x : TServer) (k : List Bool) (hw : Wf kServerx x) (hk : Wf (.sl 4 .bool) k) : P_w_FnExactCrashServer x k = some (true, ()) := by
  have hm : Sm maxLen kServerx x := sm_wf hw
  simp only [P_w_FnExactCrashServer, B_w_FnExactCrashServer]
  by_cases hkl : (k.length : Int) > 1048576
  · rw [dec_true hkl]; rfl
  rw [dec_false hkl]
  obtain ⟨r, e, h1, h2⟩ := szServer_ok x hm 1048576 (by omega) (by omega)
  simp only [cond_false]
  rw [e]
  simp only [bindO]
  by_cases hr : r < 0
  · rw [dec_true hr]; rfl
  rw [dec_false hr]
  have hs : Sm 1048576 kServerx x := h2 (by omega)
  obtain ⟨y, b, es, ei, hy, hSy⟩ := crash_eq x k hs
  have hM : (1048576 : Nat) ≤ maxLen := by simp only [maxLen]; omega
  have hSx := sm_serv (Nat.le_refl _) hs
  have q1 := eqServer_refl y hy
  have q3 := eqServer_refl x hm
  have nx := nServer_le hSx
  have ny := nServer_le hSy
  have hks : Sm 1048576 (.sl 4 .bool) k := ⟨by show k.length ≤ _; omega, fun _ _ => trivial⟩
  have tk := toBoolS_eq k hks
  have qk := eqBoolS_refl k (sm_mono hM hks)
  obtain ⟨mx, x1, x2, x3, ex, ax, bx, fx⟩ := mh_server x hSx.1.2.1 hSx.2 1 (by omega) (by omega)
  obtain ⟨my, y1, y2, y3, ey, ay, by', fy⟩ := mh_server y hSy.1.2.1 hSy.2 1 (by omega) (by omega)
  obtain ⟨zk, ek⟩ := markBoolS_ok k (by omega) mx (by omega) (by omega)
  simp only [cond_false, toServer_eq x hs, tk, es, ei, q1, q3, qk, ex, ek, ey, fy, Bool.not_true, bindS]
  rw [dec_false (show ¬ mx + (k.length : Int) < 0 by omega), dec_false (show ¬ my < 0 by omega)]
  simp
end Go.Proofs.YtmdbndbfhgdhfaaGreat.Ev
