/- The law FnExactSyncAll: its plain function always answers true. -/
import Derived.Test.YtmdbndbfhgdhfaaGreatC5
set_option linter.unusedVariables false
set_option linter.unusedSimpArgs false
namespace Go.Proofs.YtmdbndbfhgdhfaaGreat.Ev
theorem sm_disk {N e1 e2 : Nat} {d : TDisk} (hN : N ≤ 1048576) (h : Sm N (.pair (.sl e1 .str) (.sl e2 .str)) d) : DiskS d := ⟨sm_secs hN (Sm.l h), sm_secs hN (Sm.r h)⟩
theorem sm_store {N : Nat} {s : TStore} (hN : N ≤ 1048576) (h : Sm N kStorex s) : StoreS s := ⟨sm_disk hN (Sm.l h), by
    have h1 : List.length s.2.2.2 ≤ N := (Sm.r (Sm.r (Sm.r h))).1
    omega, fun u hu => by
    have h1 : Sm N kUp u := (Sm.r (Sm.r (Sm.r h))).2 u hu
    have h2 : List.length u.2.2.1 ≤ N := (Sm.l (Sm.r (Sm.r h1))).1
    omega⟩
theorem sm_serv {N : Nat} {s : TServer} (hN : N ≤ 1048576) (h : Sm N kServerx s) : ServS s := ⟨sm_store hN (Sm.l h), by
    have h1 : List.length s.2 ≤ N := (Sm.r h).1
    omega⟩
theorem sm_mono {N M : Nat} (h : N ≤ M) : ∀ {k : K} {x : k.T}, Sm N k x → Sm M k x
  | .int _, _, _ => trivial
  | .bool, _, _ => trivial
  | .fnc _, _, _ => trivial
  | .str, _, g => Nat.le_trans g h
  | .sl _ _, _, g => ⟨Nat.le_trans g.1 h, fun x hx => sm_mono h (g.2 x hx)⟩
  | .rs _ _, _, g => ⟨Nat.le_trans g.1 h, fun x hx => sm_mono h (g.2 x hx)⟩
  | .pair _ _, _, g => ⟨sm_mono h g.1, sm_mono h g.2⟩

/-- What marks of a server take. -/
theorem nServer_le {s : TServer} (h : ServS s) : nServer s ≤ 4000000000000000 := by
  have h1 := h.1.1.1.1
  have h2 := h.1.1.2.1
  have h3 := h.1.2.1
  have h4 := h.2
  have c1 := cost_le (fun u : TUp => List.length u.2.2.1 + 3) 2000000003 s.1.2.2.2 (fun u hu => by have := h.1.2.2 u hu; omega)
  have c2 := cost_le (fun _ : THeld => 3) 3 s.2 (fun u hu => Nat.le_refl _)
  have c3 : s.1.2.2.2.length * 2000000003 ≤ 1048576 * 2000000003 := Nat.mul_le_mul_right _ h3
  unfold nServer nStore nDisk
  omega

theorem syncAll_eq (x : TServer) (h : Sm 1048576 kServerx x) : ∃ y l, P_s_SyncAll x = some (y, l, ()) ∧ P_i_SyncAll x = some (y, l, ()) ∧ Sm 1048576 kServerx y ∧ Sm 1048576 (.sl 0 kHeld) l := by
  have hS := sm_serv (Nat.le_refl _) h
  obtain ⟨b, hs, hi, hb⟩ := serverOk_eq x hS.1.1.1 hS.2
  simp only [P_s_SyncAll, B_s_SyncAll, P_i_SyncAll, B_i_SyncAll, s_copyServer_eq x hS, i_copyServer_eq x hS, hs, hi, bindO]
  cases b with
  | false => exact ⟨x, [], rfl, rfl, h, by simp [Sm]⟩
  | true =>
    obtain ⟨h1, h2, h3⟩ := hb rfl
    simp only [Bool.not_true, cond_false, P_s_SyncStore, B_s_SyncStore, s_copyStore_eq x.1 hS.1, h1, s_flush_eq x.1.1 hS.1.1, P_i_Server_syncAll, B_i_Server_syncAll, i_flush_eq x.1.1 hS.1.1, bindO, cond_true]
    have hl := hS.2
    rw [dec_true (by simp; omega), dec_true (by simp; omega)]
    exact ⟨_, _, rfl, by simp, ⟨⟨⟨h.1.1.1, h.1.1.1⟩, h.1.2⟩, by simp [Sm]⟩, h.2⟩

theorem exactSyncAll (x : TServer) (hw : Wf kServerx x) : P_w_FnExactSyncAll x = some (true, ()) := by
  have hm : Sm maxLen kServerx x := sm_wf hw
  simp only [P_w_FnExactSyncAll, B_w_FnExactSyncAll]
  obtain ⟨r, e, h1, h2⟩ := szServer_ok x hm 1048576 (by omega) (by omega)
  rw [e]
  simp only [bindO]
  by_cases hr : r < 0
  · rw [dec_true hr]; rfl
  rw [dec_false hr]
  have hs : Sm 1048576 kServerx x := h2 (by omega)
  obtain ⟨y, l, es, ei, hy, hl⟩ := syncAll_eq x hs
  have hM : (1048576 : Nat) ≤ maxLen := by simp only [maxLen]; omega
  have hSx := sm_serv (Nat.le_refl _) hs
  have hSy := sm_serv (Nat.le_refl _) hy
  have q1 := eqServer_refl y (sm_mono hM hy)
  have q2 := eqHeldS_refl l (sm_mono hM hl)
  have q3 := eqServer_refl x hm
  have nx := nServer_le hSx
  have ny := nServer_le hSy
  have hll : List.length l ≤ 1048576 := hl.1
  have nl := cost_le (fun _ : THeld => 3) 3 l (fun u hu => Nat.le_refl _)
  obtain ⟨mx, x1, x2, x3, ex, ax, bx, fx⟩ := mh_server x hSx.1.2.1 hSx.2 1 (by omega) (by omega)
  obtain ⟨my, y1, y2, y3, ey, ay, by', fy⟩ := mh_server y hSy.1.2.1 hSy.2 1 (by omega) (by omega)
  obtain ⟨ml, z1, el, al, bl, fl⟩ := mh_heldS l hll my (by omega) (by omega)
  simp only [cond_false, toServer_eq x hs, es, ei, q1, q2, q3, ex, ey, el, fy, fl, Bool.not_true, bindS]
  rw [dec_false (show ¬ mx < 0 by omega), dec_false (show ¬ my < 0 by omega), dec_false (show ¬ ml < 0 by omega)]
  simp
end Go.Proofs.YtmdbndbfhgdhfaaGreat.Ev
