/- Copies of disks, stores and servers; falls of disks; opening a store: of the program and of the reference. -/
import Derived.Test.YtmdbndbfhgdhfaaGreatC4
set_option linter.unusedVariables false
set_option linter.unusedSimpArgs false
namespace Go.Proofs.YtmdbndbfhgdhfaaGreat.Ev

theorem cloneS_eq (a : List ByteArray) (h : a.length ≤ 1048576) : P_slices_Clone_string_string a = some (a, ()) := by
  simp only [P_slices_Clone_string_string, B_slices_Clone_string_string]
  have e : (bif decide (([] : List ByteArray).length + a.length ≤ 9223372036854775807) then bif decide ((([] : List ByteArray).length + a.length) * 16 ≤ 140737488355328) then some (([] ++ a), ()) else none else none) = some (a, ()) := by
    rw [dec_true (by simp; omega), dec_true (by simp; omega)]
    simp
  rw [e]
  cases a with
  | nil => simp [eqO_self]
  | cons x xs => simp
theorem cloneH_eq (a : List THeld) (h : a.length ≤ 1048576) : P_slices_Clone_impl_Held_impl_Held a = some (a, ()) := by
  simp only [P_slices_Clone_impl_Held_impl_Held, B_slices_Clone_impl_Held_impl_Held]
  have e : (bif decide (([] : List THeld).length + a.length ≤ 9223372036854775807) then bif decide ((([] : List THeld).length + a.length) * 24 ≤ 140737488355328) then some (([] ++ a), ()) else none else none) = some (a, ()) := by
    rw [dec_true (by simp; omega), dec_true (by simp; omega)]
    simp
  rw [e]
  cases a with
  | nil => simp [eqO_self]
  | cons x xs => simp

/-- A disk, a store, a server that is not too large. -/
def DiskS (d : TDisk) : Prop := Secs d.1 ∧ Secs d.2
def StoreS (s : TStore) : Prop := DiskS s.1 ∧ List.length s.2.2.2 ≤ 1048576 ∧ ∀ u ∈ s.2.2.2, List.length u.2.2.1 ≤ 2000000000
def ServS (s : TServer) : Prop := StoreS s.1 ∧ List.length s.2 ≤ 1048576

theorem i_copyDisk_eq (d : TDisk) (h : DiskS d) : P_i_copyDisk d = some (d, ()) := by
  simp only [P_i_copyDisk, B_i_copyDisk, cloneS_eq _ h.1.1, cloneS_eq _ h.2.1, bindO]
theorem s_copyDisk_eq (d : TDisk) (h : DiskS d) : P_s_l12Copy d = some (d, ()) := by
  have h1 := h.1.1
  have h2 := h.2.1
  simp only [P_s_l12Copy, B_s_l12Copy]
  rw [dec_true (by simp; omega), dec_true (by simp; omega), dec_true (by simp; omega), dec_true (by simp; omega)]
  simp
theorem i_copyUp_eq (u : TUp) (h : List.length u.2.2.1 ≤ 2000000000) : P_i_copyUp u = some (u, ()) := by
  simp only [P_i_copyUp, B_i_copyUp, clone_byte_eq _ (show List.length u.2.2.1 ≤ 140737488355328 by omega), bindO]
theorem i_copyStore_eq (s : TStore) (h : StoreS s) : P_i_copyStore s = some (s, ()) := by
  simp only [P_i_copyStore, B_i_copyStore, i_copyDisk_eq _ h.1, bindO]
  have hl := h.2.1
  have key := loopO_count (L_i_copyStore_0 P_i_copyUp s) (fun i => ((i : Int), s.2.1, s.2.2.1, s.1.1, s.1.2, s.2.2.2.take i, ())) s.2.2.2.length (s, ()) (fun i hi => ?_) ?_
  · simpa using key
  · have g1 : ((i : Int) < (s.2.2.2.length : Int)) := by omega
    have g2 : (0 : Int) ≤ (i : Int) := by omega
    simp only [L_i_copyStore_0, dec_true g1, dec_true g2, cond_true]
    rw [rd_nat (k := kUp) (xs := s.2.2.2) hi, i_copyUp_eq _ (h.2.2 _ (List.getElem_mem hi))]
    simp only [bindO]
    rw [dec_true (by simp; omega), dec_true (by simp; omega), w64 (by omega) (by omega), List.take_succ_eq_append_getElem hi]
    rfl
  · simp [L_i_copyStore_0]
theorem s_copyStore_eq (s : TStore) (h : StoreS s) : P_s_l14Copy s = some (s, ()) := by
  simp only [P_s_l14Copy, B_s_l14Copy, s_copyDisk_eq _ h.1, copyUps_eq _ h.2.1 h.2.2, bindO]
theorem i_copyServer_eq (s : TServer) (h : ServS s) : P_i_copyServer s = some (s, ()) := by
  simp only [P_i_copyServer, B_i_copyServer, i_copyStore_eq _ h.1, cloneH_eq _ h.2, bindO]
theorem s_copyServer_eq (s : TServer) (h : ServS s) : P_s_l15Copy s = some (s, ()) := by
  have h2 := h.2
  simp only [P_s_l15Copy, B_s_l15Copy, s_copyStore_eq _ h.1, bindO]
  rw [dec_true (by simp; omega), dec_true (by simp; omega)]
  simp

theorem i_flush_eq (d : TDisk) (h : DiskS d) : P_i_FlushDisk d = some ((d.1, d.1), ()) := by
  simp only [P_i_FlushDisk, B_i_FlushDisk, cloneS_eq _ h.1.1, bindO]
theorem s_flush_eq (d : TDisk) (h : DiskS d) : P_s_FlushDisk d = some ((d.1, d.1), ()) := by
  have h1 := h.1.1
  simp only [P_s_FlushDisk, B_s_FlushDisk]
  rw [dec_true (by simp; omega), dec_true (by simp; omega)]
  simp

theorem s_TopEpoch_eq (d : TDisk) (h : Secs d.1) : P_s_TopEpoch d = some (topL d.1, ()) := by
  have hl := h.1
  simp only [P_s_TopEpoch, B_s_TopEpoch]
  have key := loopO_count (L_s_TopEpoch_0 P_s_GetRec d) (fun i => ((d.1.take i).foldl topOf (-1), (i : Int), ())) d.1.length (topL d.1, ()) (fun i hi => ?_) ?_
  · simpa using key
  · have g1 : ((i : Int) < (d.1.length : Int)) := by omega
    have g2 : (0 : Int) ≤ (i : Int) := by omega
    simp only [L_s_TopEpoch_0, dec_true g1, dec_true g2, cond_true]
    rw [s_GetRec_eq _ (secs_at h hi), w64 (by omega) (by omega)]
    simp only [bindO]
    have e : (d.1.take (i + 1)).foldl topOf (-1) = topOf ((d.1.take i).foldl topOf (-1)) (rd .str d.1 (i : Int)) := by
      rw [List.take_succ_eq_append_getElem hi, List.foldl_append, rd_str hi]
      rfl
    rw [e]
    generalize (d.1.take i).foldl topOf (-1) = t
    unfold topOf
    cases (getRec (rd .str d.1 (i : Int))).2.1
    · rfl
    · cases decide ((getRec (rd .str d.1 (i : Int))).1.1 > t) <;> rfl
  · simp [L_s_TopEpoch_0, topL]
theorem i_TopEpoch_eq (d : TDisk) (h : Secs d.1) : P_i_TopEpoch d = some (topL d.1, ()) := by
  simp only [P_i_TopEpoch, B_i_TopEpoch, i_topFrom_eq _ h, bindO]

theorem getRec_epoch (s : ByteArray) : (getRec s).1.1 ≤ 10000 := by
  unfold getRec
  split
  · rename_i h
    simp only [recGood, Bool.and_eq_true] at h
    exact (recOk_bnd h.1.2).2.1
  · simp [noRec]
theorem topL_le (l : List ByteArray) : -1 ≤ topL l ∧ topL l ≤ 10000 := by
  unfold topL
  have : ∀ (l : List ByteArray) (t : Int), -1 ≤ t ∧ t ≤ 10000 → -1 ≤ l.foldl topOf t ∧ l.foldl topOf t ≤ 10000 := by
    intro l
    induction l with
    | nil => exact fun t h => h
    | cons s l ih =>
      intro t h
      refine ih _ ?_
      have h2 := getRec_epoch s
      unfold topOf
      cases (getRec s).2.1 with
      | false => exact h
      | true =>
        by_cases h3 : (getRec s).1.1 > t
        · rw [dec_true h3]; simp only [cond_true]; omega
        · rw [dec_false h3]; exact h
  exact this l (-1) (by omega)

theorem secs_set {l : List ByteArray} (h : Secs l) (i : Nat) {s : ByteArray} (hs : s.size ≤ 1048576) : Secs (l.set i s) := ⟨by rw [List.length_set]; exact h.1, fun x hx => (List.mem_or_eq_of_mem_set hx).elim (h.2 x) (fun e => by rw [e]; exact hs)⟩

theorem fall_eq (d : TDisk) (k : List Bool) (h : DiskS d) : ∃ d', P_s_FallDisk d k = some (d', ()) ∧ P_i_FallDisk d k = some (d', ()) ∧ DiskS d' := by
  obtain ⟨b, hb, hb2⟩ := s_DiskOk_ok d h.1.1
  have hl := h.1.1
  simp only [P_s_FallDisk, B_s_FallDisk, P_i_FallDisk, B_i_FallDisk, s_copyDisk_eq d h, i_copyDisk_eq d h, diskOk_eq, hb, bindO]
  cases b with
  | false => exact ⟨d, rfl, rfl, h⟩
  | true =>
    have hlen := (hb2 rfl).1
    simp only [Bool.not_true, cond_false]
    have step : ∀ l : Int × List ByteArray × List ByteArray × Unit, 0 ≤ l.1 ∧ l.2.1.length = d.1.length ∧ l.2.2.1.length = d.1.length ∧ Secs l.2.1 ∧ Secs l.2.2.1 →
        (∃ y : Int × List ByteArray × List ByteArray × Unit, L_s_FallDisk_0 k l = some (.inl y) ∧ (0 ≤ y.1 ∧ y.2.1.length = d.1.length ∧ y.2.2.1.length = d.1.length ∧ Secs y.2.1 ∧ Secs y.2.2.1) ∧ ((d.1.length : Int) - y.1).toNat < ((d.1.length : Int) - l.1).toNat) ∨
        ∃ z, L_s_FallDisk_0 k l = some (.inr z) ∧ DiskS z.1 := by
      intro l ⟨h0, h1, h2, h3, h4⟩
      simp only [L_s_FallDisk_0, h1, h2]
      by_cases hi : l.1 < (d.1.length : Int)
      · obtain ⟨i, hn⟩ : ∃ i : Nat, l.1 = (i : Int) := ⟨l.1.toNat, by omega⟩
        rw [hn] at hi h0 ⊢
        have s1 := secs_at h3 (i := i) (by omega)
        have s2 := secs_at h4 (i := i) (by omega)
        rw [dec_true hi, dec_true h0, w64 (by omega) (by omega)]
        simp only [cond_true, Int.toNat_natCast]
        refine .inl ?_
        by_cases hk : (i : Int) < (k.length : Int)
        · rw [dec_true hk]
          simp only [cond_true, bindO]
          cases rd .bool k (i : Int) with
          | true => exact ⟨_, rfl, ⟨by simp only; omega, h1, by simp [h2], h3, secs_set h4 i s1⟩, by simp only; omega⟩
          | false => exact ⟨_, rfl, ⟨by simp only; omega, by simp [h1], h2, secs_set h3 i s2, h4⟩, by simp only; omega⟩
        · rw [dec_false hk]
          simp only [cond_false, bindO]
          exact ⟨_, rfl, ⟨by simp only; omega, by simp [h1], h2, secs_set h3 i s2, h4⟩, by simp only; omega⟩
      · rw [dec_false hi]
        exact .inr ⟨_, rfl, h3, h4⟩
    have h0 : 0 ≤ (0 : Int) ∧ d.1.length = d.1.length ∧ d.2.length = d.1.length ∧ Secs d.1 ∧ Secs d.2 := ⟨by omega, rfl, hlen.symm, h.1, h.2⟩
    obtain ⟨z, e, hz⟩ := loopO_ind (L_s_FallDisk_0 k) (fun l => ((d.1.length : Int) - l.1).toNat) _ (fun z => DiskS z.1) step (0, d.1, d.2, ()) h0
    refine ⟨z.1, e, ?_, hz⟩
    rw [loopO_congr (g := L_s_FallDisk_0 k) (fun l => 0 ≤ l.1 ∧ l.2.1.length = d.1.length ∧ l.2.2.1.length = d.1.length ∧ Secs l.2.1 ∧ Secs l.2.2.1) (fun l hl => ?_) (fun l y hl ey => ?_) h0]
    · exact e
    · simp only [L_i_FallDisk_0, L_s_FallDisk_0, hl.2.1]
    · have e3 : L_i_FallDisk_0 (d, ()) k l = L_s_FallDisk_0 k l := by simp only [L_i_FallDisk_0, L_s_FallDisk_0, hl.2.1]
      rw [e3] at ey
      rcases step l hl with ⟨y', e1, e2, _⟩ | ⟨z', e1, _⟩
      · rw [e1] at ey; injection ey with ey; injection ey with ey; subst ey; exact e2
      · rw [e1] at ey; injection ey with ey; cases ey

theorem open_eq (d : TDisk) (h : DiskS d) : ∃ st b, P_s_OpenStore_r99_0 d = some (st, b, ()) ∧ P_i_OpenStore d = some (st, b, ()) ∧ DiskS st.1 ∧ Ups st.2.2.2 := by
  have hl := h.1.1
  obtain ⟨bd, hd, hdt⟩ := s_DiskOk_ok d hl
  obtain ⟨l, hs, hi, hll, hrg⟩ := scan_ok d h.1
  have hfs := s_FoldRecs_eq l (by simp only [maxLen]; omega) hrg
  have hfi := i_FoldRecs_eq l (by simp only [maxLen]; omega) hrg
  have htop := topL_le d.1
  have h00 : DiskS ([], []) := ⟨⟨by simp, fun s hs => by cases hs⟩, ⟨by simp, fun s hs => by cases hs⟩⟩
  have hups : (foldRecs l).2.1 = true → Ups (foldRecs l).1 := by
    intro e
    unfold foldRecs at e ⊢
    split
    · rename_i us' e1
      exact foldAll_ups ups_nil hrg e1
    · rename_i e1
      rw [e1] at e; cases e
  simp only [P_s_OpenStore_r99_0, B_s_OpenStore_r99_0, P_i_OpenStore, B_i_OpenStore, diskOk_eq, hd, hs, hi, hfs, hfi, s_TopEpoch_eq d h.1, i_TopEpoch_eq d h.1, s_copyDisk_eq d h, i_copyDisk_eq d h, bindO]
  cases bd with
  | false => exact ⟨_, _, rfl, rfl, h00, ups_nil⟩
  | true =>
    simp only [Bool.not_true, cond_false]
    generalize foldRecs l = fr at hups
    cases hk : fr.2.1 with
    | false => exact ⟨_, _, rfl, rfl, h00, ups_nil⟩
    | true =>
      rw [w64 (n := topL d.1 + 1) (by omega) (by omega)]
      cases decide (topL d.1 + 1 > 10000) with
      | true => exact ⟨_, _, rfl, rfl, h00, ups_nil⟩
      | false => exact ⟨_, _, rfl, rfl, h, hups hk⟩
end Go.Proofs.YtmdbndbfhgdhfaaGreat.Ev
