/- ServerNew of the program and of the reference, and the law FnExactServerNew. -/
import Derived.Test.YtiplpehengcinaaA12
import Derived.Test.YtiplpehengcinaaA2
set_option linter.unusedVariables false
set_option linter.unusedSimpArgs false
namespace Go.Proofs.Ytiplpehengcinaa.Ev
def newDisk (n : Int) : TDisk := if 0 ≤ n ∧ n ≤ 200 then (List.replicate n.toNat ⟨#[]⟩, List.replicate n.toNat ⟨#[]⟩) else ([], [])
theorem newDisk_len (n : Int) : List.length (newDisk n).1 ≤ 200 ∧ List.length (newDisk n).2 ≤ 200 := by
  unfold newDisk
  split
  · simp; omega
  · simp
theorem s_DiskNew_eq (n : Int) : P_s_DiskNew n = some (newDisk n, ()) := by
  simp only [P_s_DiskNew, B_s_DiskNew, newDisk]
  by_cases h : 0 ≤ n ∧ n ≤ 200
  · rw [if_pos h]
    have key := loopO_count (L_s_DiskNew_0 n) (fun i => ((i : Int), List.replicate i ⟨#[]⟩, List.replicate i ⟨#[]⟩, ())) n.toNat ((List.replicate n.toNat ⟨#[]⟩, List.replicate n.toNat ⟨#[]⟩), ()) (fun i hi => ?_) ?_
    · exact key
    · have h1 : (i : Int) < n := by omega
      simp only [L_s_DiskNew_0, dec_true h1, dec_true h.2, cond_true, bindS]
      rw [dec_true (by simp; omega), dec_true (by simp; omega)]
      simp only [cond_true]
      rw [w64 (by omega) (by omega), List.replicate_succ']
      rfl
    · have h1 : ¬ ((n.toNat : Int) < n) := by omega
      simp only [L_s_DiskNew_0, dec_false h1, cond_false, bindS]
  · rw [if_neg h]
    refine loopO_end ?_
    simp only [L_s_DiskNew_0]
    by_cases h1 : (0 : Int) < n
    · rw [dec_true h1, dec_false (show ¬ n ≤ 200 by omega)]; rfl
    · rw [dec_false h1]; rfl
theorem i_DiskNew_eq (n : Int) : P_i_DiskNew n = some (newDisk n, ()) := by
  simp only [P_i_DiskNew, B_i_DiskNew, newDisk, inRange_eq, bindO]
  by_cases h : 0 ≤ n ∧ n ≤ 200
  · rw [dec_true h, if_pos h, dec_true h.1, dec_true (show n.toNat ≤ 9223372036854775807 by omega), dec_true (show 16 * n.toNat ≤ 281474976710656 by omega)]
    rfl
  · rw [dec_false h, if_neg h]; rfl
def newServer (n : Int) : TServer := ((newDisk n, 0, 0, []), [])
theorem s_ServerNew_eq (n : Int) : P_s_ServerNew n = some (newServer n, ()) := by
  simp only [P_s_ServerNew, B_s_ServerNew, P_s_StoreNew, B_s_StoreNew, s_DiskNew_eq, bindO, newServer]
theorem i_ServerNew_eq (n : Int) : P_i_ServerNew n = some (newServer n, ()) := by
  simp only [P_i_ServerNew, B_i_ServerNew, P_i_StoreNew, B_i_StoreNew, i_DiskNew_eq, bindO, newServer]
theorem markUpS_nil (m : Int) : P_w_markUpS [] m = some (m, [], ()) := loopO_end (by simp [L_w_markUpS_0])
theorem heldUpS_nil (m : Int) : P_w_heldUpS [] m = some (m, ()) := loopO_end (by simp [L_w_heldUpS_0])
theorem markHeldS_nil (m : Int) : P_w_markHeldS [] m = some (m, [], ()) := loopO_end (by simp [L_w_markHeldS_0])
theorem heldHeldS_nil (m : Int) : P_w_heldHeldS [] m = some (m, ()) := loopO_end (by simp [L_w_heldHeldS_0])
noncomputable def markedD (d : TDisk) : TDisk := (markedS 1 d.1.length, markedS (1 + (d.1.length : Int)) d.2.length)
theorem markServer_new (n : Int) : P_w_markServer (newServer n) 1 = some (1 + (List.length (newDisk n).1 : Int) + (List.length (newDisk n).2 : Int), ((markedD (newDisk n), 0, 0, []), []), ()) := by
  have hl := newDisk_len n
  simp only [P_w_markServer, B_w_markServer, P_w_markStore, B_w_markStore, P_w_markDisk, B_w_markDisk, newServer]
  rw [markStringS_eq _ _ (by omega) (by omega)]
  simp only [bindO]
  rw [markStringS_eq _ _ (by omega) (by omega)]
  simp only [markUpS_nil, markHeldS_nil]
  rfl
theorem heldServer_new (n : Int) : P_w_heldServer ((markedD (newDisk n), 0, 0, []), []) 1 = some (1 + (List.length (newDisk n).1 : Int) + (List.length (newDisk n).2 : Int), ()) := by
  have hl := newDisk_len n
  simp only [P_w_heldServer, B_w_heldServer, P_w_heldStore, B_w_heldStore, P_w_heldDisk, B_w_heldDisk, markedD]
  rw [heldStringS_eq _ _ (by omega) (by omega)]
  simp only [bindO]
  rw [dec_false (show ¬ (1 + (List.length (newDisk n).1 : Int) < 0) by omega)]
  simp only [cond_false]
  rw [heldStringS_eq _ _ (by omega) (by omega)]
  simp only
  rw [dec_false (show ¬ (1 + (List.length (newDisk n).1 : Int) + (List.length (newDisk n).2 : Int) < 0) by omega)]
  simp only [cond_false, heldUpS_nil, heldHeldS_nil]
  rw [dec_false (show ¬ (1 + (List.length (newDisk n).1 : Int) + (List.length (newDisk n).2 : Int) < 0) by omega)]
  rfl
theorem exactServerNew (n : Int) : P_w_FnExactServerNew n = some (true, ()) := by
  have hl := newDisk_len n
  have hm : Sm maxLen kServer (newServer n) := by
    refine ⟨⟨⟨⟨by simp only [newServer, maxLen]; omega, fun x hx => ?_⟩, by simp only [newServer, maxLen]; omega, fun x hx => ?_⟩, trivial, trivial, by simp [newServer], fun x hx => by cases hx⟩, by simp [newServer], fun x hx => by cases hx⟩
    · simp only [newServer, newDisk] at hx
      split at hx
      · rw [List.eq_of_mem_replicate hx]; exact Nat.zero_le _
      · cases hx
    · simp only [newServer, newDisk] at hx
      split at hx
      · rw [List.eq_of_mem_replicate hx]; exact Nat.zero_le _
      · cases hx
  have hh : ∀ x : TServer, x = newServer n → P_w_heldServer ((markedD (newDisk n), (x.1.2.1, (x.1.2.2.1, []))), []) 1 = some (1 + (List.length (newDisk n).1 : Int) + (List.length (newDisk n).2 : Int), ()) := by
    intro x hx; subst hx; exact heldServer_new n
  simp only [P_w_FnExactServerNew, B_w_FnExactServerNew, s_ServerNew_eq, i_ServerNew_eq, bindO]
  rw [eqServer_refl _ hm, markServer_new]
  simp only [hh _ rfl]
  rw [dec_false (show ¬ (1 + (List.length (newDisk n).1 : Int) + (List.length (newDisk n).2 : Int) < 0) by omega)]
  simp
end Go.Proofs.Ytiplpehengcinaa.Ev
