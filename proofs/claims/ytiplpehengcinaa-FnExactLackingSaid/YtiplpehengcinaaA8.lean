/- The world's questions: AllDone, NoneFails, Lacking, NotLost, Ends, Begins. -/
import Derived.Test.YtiplpehengcinaaHp
import Derived.Test.YtiplpehengcinaaLp
import Derived.Test.YtiplpehengcinaaA3
import Derived.Laws.Strings
set_option linter.unusedVariables false
set_option linter.unusedSimpArgs false
namespace Go.Proofs.Ytiplpehengcinaa.Ev

abbrev World' := TWorld
theorem smW_cls {N : Nat} {w : TWorld} (h : Sm N kWorld w) : Sm N (.sl 0 kClient) w.2.1 := Sm.l (Sm.r h)
theorem smW_told {N : Nat} {w : TWorld} (h : Sm N kWorld w) : w.2.2.2.2.2.length ≤ N := (Sm.r (Sm.r (Sm.r (Sm.r (Sm.r h))))).1
theorem smW_ups {N : Nat} {w : TWorld} (h : Sm N kWorld w) : Sm N (.sl 0 kUp) w.1.1.2.2.2 := Sm.r (Sm.r (Sm.r (Sm.l (Sm.l h))))

theorem s_AllDone_ok (w : TWorld) (h : Sm 1048576 kWorld w) : ∃ b, P_s_AllDone w = some (b, ()) := by
  refine ⟨_, loopB (L_s_AllDone_0 w) w.2.1.length (by have := (smW_cls h).1; simp only [maxLen]; omega) (fun i => decide ((rd kClient w.2.1 (i : Int)).2.2.1 = 5)) (fun i hi => ?_) (by simp [L_s_AllDone_0])⟩
  have h1 : ((i : Int) < (w.2.1.length : Int)) := by omega
  have h2 : (0 : Int) ≤ (i : Int) := by omega
  simp only [L_s_AllDone_0, dec_true h1, dec_true h2, cond_true]
  cases decide ((rd kClient w.2.1 (i : Int)).2.2.1 = 5) <;> simp
theorem i_AllDone_eq (w : TWorld) : P_i_AllDone w = P_s_AllDone w := rfl

theorem s_NoneFails_ok (w : TWorld) (h : Sm 1048576 kWorld w) : ∃ b, P_s_NoneFails w = some (b, ()) := by
  refine ⟨_, loopB (L_s_NoneFails_0 w) w.2.1.length (by have := (smW_cls h).1; simp only [maxLen]; omega) (fun i => !decide ((rd kClient w.2.1 (i : Int)).2.2.1 = 6)) (fun i hi => ?_) (by simp [L_s_NoneFails_0])⟩
  have h1 : ((i : Int) < (w.2.1.length : Int)) := by omega
  have h2 : (0 : Int) ≤ (i : Int) := by omega
  simp only [L_s_NoneFails_0, dec_true h1, dec_true h2, cond_true]
  cases decide ((rd kClient w.2.1 (i : Int)).2.2.1 = 6) <;> simp
theorem i_NoneFails_eq (w : TWorld) : P_i_NoneFails w = P_s_NoneFails w := rfl

/-- Where an upload of a name is. -/
def upIx (us : List TUp) (id : ByteArray) : Nat := firstN (fun i => !((rd kUp us (i : Int)).1.toList == id.toList)) 0 us.length
def noUp : TUp × Bool × Unit := ((⟨#[]⟩, 0, [], false), false, ())
def upAt (st : TStore) (id : ByteArray) : TUp × Bool × Unit := if upIx st.2.2.2 id < st.2.2.2.length then (rd kUp st.2.2.2 (upIx st.2.2.2 id : Int), true, ()) else noUp

theorem l14At_eq (us : List TUp) (id : ByteArray) (h : us.length ≤ maxLen) : P_s_l14At us id = some (if upIx us id < us.length then (upIx us id : Int) else -1, ()) := by
  simp only [P_s_l14At, B_s_l14At]
  refine loopO_first (L_s_l14At_0 us id) (fun i => ((i : Int), ())) us.length (fun i => (if i < us.length then (i : Int) else -1, ())) (fun i => !((rd kUp us (i : Int)).1.toList == id.toList)) (fun i hi => ?_) ?_
  · have h1 : ((i : Int) < (us.length : Int)) := by omega
    have h2 : (0 : Int) ≤ (i : Int) := by omega
    simp only [L_s_l14At_0, dec_true h1, dec_true h2, cond_true, if_pos hi]
    rw [w64 (by omega) (by simp only [maxLen] at h; omega)]
    cases ((rd kUp us (i : Int)).1.toList == id.toList) <;> simp
  · simp [L_s_l14At_0]

theorem rdUp_sm {us : List TUp} {N : Nat} (h : Sm N (.sl 0 kUp) us) {i : Nat} (hi : i < us.length) : Sm N kUp (rd kUp us (i : Int)) := by
  rw [rd_nat (k := kUp) (xs := us) hi]
  exact h.2 _ (List.getElem_mem hi)

theorem s_UpAt_eq (st : TStore) (id : ByteArray) (h : Sm 1048576 (.sl 0 kUp) st.2.2.2) : P_s_UpAt st id = some (upAt st id) := by
  have hl : st.2.2.2.length ≤ 1048576 := h.1
  simp only [P_s_UpAt, B_s_UpAt]
  rw [l14At_eq _ _ (by simp only [maxLen]; omega)]
  simp only [bindO, upAt]
  by_cases hi : upIx st.2.2.2 id < st.2.2.2.length
  · have hd : List.length (rd kUp st.2.2.2 (upIx st.2.2.2 id : Int)).2.2.1 ≤ 1048576 := (Sm.l (Sm.r (Sm.r (rdUp_sm h hi)))).1
    rw [if_pos hi, if_pos hi, dec_false (by omega), dec_true (show (0 : Int) ≤ (upIx st.2.2.2 id : Int) by omega), dec_true (by omega), dec_true (by simp; omega), dec_true (by simp; omega)]
    simp
  · rw [if_neg hi, if_neg hi]
    rfl

theorem copyUp_eq (u : TUp) (h : Sm 1048576 kUp u) : P_i_copyUp u = some (u, ()) := by
  have hd : List.length u.2.2.1 ≤ 1048576 := (Sm.l (Sm.r (Sm.r h))).1
  simp only [P_i_copyUp, B_i_copyUp, clone_byte_eq _ (show List.length u.2.2.1 ≤ 140737488355328 by omega), bindO]

theorem i_UpAt_eq (st : TStore) (id : ByteArray) (h : Sm 1048576 (.sl 0 kUp) st.2.2.2) : P_i_UpAt st id = some (upAt st id) := by
  have hl : st.2.2.2.length ≤ 1048576 := h.1
  simp only [P_i_UpAt, B_i_UpAt]
  have e := loopO_first (L_i_UpAt_0 P_i_copyUp st id) (fun i => ((i : Int), ())) st.2.2.2.length (fun i => if i < st.2.2.2.length then .inr (rd kUp st.2.2.2 (i : Int), true, ()) else .inl ()) (fun i => !((rd kUp st.2.2.2 (i : Int)).1.toList == id.toList)) (fun i hi => ?_) ?_
  · have e' : loopO (L_i_UpAt_0 P_i_copyUp st id) (0, ()) = _ := e
    rw [e']
    simp only [upAt]
    by_cases hi : upIx st.2.2.2 id < st.2.2.2.length
    · rw [if_pos hi]
      have hi' : firstN (fun i => !((rd kUp st.2.2.2 (i : Int)).1.toList == id.toList)) 0 st.2.2.2.length < st.2.2.2.length := hi
      rw [if_pos hi']
      rfl
    · rw [if_neg hi]
      have hi' : ¬ firstN (fun i => !((rd kUp st.2.2.2 (i : Int)).1.toList == id.toList)) 0 st.2.2.2.length < st.2.2.2.length := hi
      rw [if_neg hi']
      rfl
  · have h1 : ((i : Int) < (st.2.2.2.length : Int)) := by omega
    have h2 : (0 : Int) ≤ (i : Int) := by omega
    simp only [L_i_UpAt_0, dec_true h1, dec_true h2, cond_true, if_pos hi]
    rw [w64 (by omega) (by omega), copyUp_eq _ (rdUp_sm h hi)]
    cases ((rd kUp st.2.2.2 (i : Int)).1.toList == id.toList) <;> simp [bindO]
  · simp [L_i_UpAt_0]

theorem upAt_sm {st : TStore} (h : Sm 1048576 (.sl 0 kUp) st.2.2.2) (id : ByteArray) : Sm 1048576 kUp (upAt st id).1 := by
  unfold upAt
  split
  · rename_i hi
    exact rdUp_sm h hi
  · simp [noUp, Sm]
    exact Nat.zero_le _
theorem upAt_data {st : TStore} (h : Sm 1048576 (.sl 0 kUp) st.2.2.2) (id : ByteArray) : List.length (upAt st id).1.2.2.1 ≤ 1048576 := (Sm.l (Sm.r (Sm.r (upAt_sm h id)))).1
theorem file_len {w : TWorld} (h : Sm 1048576 kWorld w) {i : Nat} (hi : i < w.2.1.length) : List.length (rd kClient w.2.1 (i : Int)).2.1 ≤ 1048576 := by
  rw [rd_nat (k := kClient) (xs := w.2.1) hi]
  have := (smW_cls h).2 _ (List.getElem_mem hi)
  exact (Sm.l (Sm.r this)).1

/-- Lacking: both add up the same. -/
theorem lacking_step (w : TWorld) (h : Sm 1048576 kWorld w) (l : Int × Int × Unit) (h0 : 0 ≤ l.2.1) (h1 : -9223372036854775808 ≤ l.1 ∧ l.1 < 9223372036854775808) : L_i_Lacking_0 P_i_UpAt w l = L_s_Lacking_0 P_s_UpAt w l := by
  simp only [L_i_Lacking_0, L_s_Lacking_0]
  by_cases hi : l.2.1 < (w.2.1.length : Int)
  · obtain ⟨i, hn⟩ : ∃ i : Nat, l.2.1 = (i : Int) := ⟨l.2.1.toNat, by omega⟩
    rw [hn] at hi h0 ⊢
    have hi' : i < w.2.1.length := by omega
    have hf := file_len h hi'
    simp only [dec_true hi, dec_true h0, cond_true]
    rw [s_UpAt_eq _ _ (smW_ups h), i_UpAt_eq _ _ (smW_ups h)]
    simp only [bindO]
    have hd := upAt_data (smW_ups h) (rd kClient w.2.1 (i : Int)).1
    rw [w64 (n := (List.length (rd kClient w.2.1 (i : Int)).2.1 : Int) - _) (by omega) (by omega)]
    by_cases hlt : (List.length (upAt w.1.1 (rd kClient w.2.1 (i : Int)).1).1.2.2.1 : Int) < (List.length (rd kClient w.2.1 (i : Int)).2.1 : Int)
    · rw [dec_true hlt, dec_false (by omega)]
      simp only [cond_true, cond_false]
      rw [wrap_sub_wrap, Int.add_sub_assoc]
    · rw [dec_false hlt]
      simp only [cond_false]
      have : (bif decide (0 > (List.length (rd kClient w.2.1 (i : Int)).2.1 : Int) - (List.length (upAt w.1.1 (rd kClient w.2.1 (i : Int)).1).1.2.2.1 : Int)) then (0 : Int) else (List.length (rd kClient w.2.1 (i : Int)).2.1 : Int) - (List.length (upAt w.1.1 (rd kClient w.2.1 (i : Int)).1).1.2.2.1 : Int)) = 0 := by
        by_cases hz : 0 > (List.length (rd kClient w.2.1 (i : Int)).2.1 : Int) - (List.length (upAt w.1.1 (rd kClient w.2.1 (i : Int)).1).1.2.2.1 : Int)
        · rw [dec_true hz]; rfl
        · rw [dec_false hz]; simp only [cond_false]; omega
      rw [this, Int.add_zero, w64 h1.1 h1.2]
  · simp only [dec_false hi, cond_false]

theorem lacking_next (w : TWorld) (h : Sm 1048576 kWorld w) (l : Int × Int × Unit) (h0 : 0 ≤ l.2.1) : (∃ a, L_i_Lacking_0 P_i_UpAt w l = some (.inl (IntKind.i64.wrap a, l.2.1 + 1, ())) ∧ l.2.1 < (w.2.1.length : Int)) ∨ L_i_Lacking_0 P_i_UpAt w l = some (.inr (l.1, ())) := by
  simp only [L_i_Lacking_0]
  by_cases hi : l.2.1 < (w.2.1.length : Int)
  · have hl : w.2.1.length ≤ 1048576 := (smW_cls h).1
    simp only [dec_true hi, dec_true h0, cond_true]
    rw [i_UpAt_eq _ _ (smW_ups h)]
    simp only [bindO]
    rw [w64 (n := l.2.1 + 1) (by omega) (by omega)]
    exact .inl ⟨_, rfl, hi⟩
  · simp only [dec_false hi, cond_false]
    exact .inr trivial

theorem s_Lacking_eq (w : TWorld) (h : Sm 1048576 kWorld w) : P_i_Lacking w = P_s_Lacking w := by
  simp only [P_i_Lacking, P_s_Lacking, B_i_Lacking, B_s_Lacking]
  refine loopO_congr (fun l => 0 ≤ l.2.1 ∧ -9223372036854775808 ≤ l.1 ∧ l.1 < 9223372036854775808) (fun l hl => lacking_step w h l hl.1 hl.2) (fun l y hl e => ?_) ⟨by simp, by simp, by simp⟩
  rcases lacking_next w h l hl.1 with ⟨a, e', _⟩ | e'
  · rw [e'] at e
    injection e with e; injection e with e; subst e
    exact ⟨by simp only; omega, wrap_lo a, wrap_hi a⟩
  · rw [e'] at e; injection e with e; cases e

theorem i_Lacking_ok (w : TWorld) (h : Sm 1048576 kWorld w) : ∃ b, P_i_Lacking w = some (b, ()) := by
  have hl : w.2.1.length ≤ 1048576 := (smW_cls h).1
  obtain ⟨z, e, _⟩ := loopO_ind (L_i_Lacking_0 P_i_UpAt w) (fun l => ((w.2.1.length : Int) - l.2.1).toNat) (fun l => 0 ≤ l.2.1) (fun _ => True) (fun l hl => by
    rcases lacking_next w h l hl with ⟨a, e', hlt⟩ | e'
    · exact .inl ⟨_, e', by simp only; omega, by simp only; omega⟩
    · exact .inr ⟨_, e', trivial⟩) (0, 0, ()) (by simp)
  exact ⟨z.1, e⟩
end Go.Proofs.Ytiplpehengcinaa.Ev
