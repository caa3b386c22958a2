/- Whether a disk, a store, a server is right: of the program and of the reference. -/
import Derived.Test.YtmdbndbfhgdhfaaGreatC2
set_option linter.unusedVariables false
set_option linter.unusedSimpArgs false
namespace Go.Proofs.YtmdbndbfhgdhfaaGreat.Ev

/-- Sectors that are not too many nor too long. -/
def Secs (l : List ByteArray) : Prop := l.length ≤ 1048576 ∧ ∀ s ∈ l, s.size ≤ 1048576
theorem secs_at {l : List ByteArray} (h : Secs l) {i : Nat} (hi : i < l.length) : (rd .str l (i : Int)).size ≤ 1048576 := by
  rw [rd_str hi]
  exact h.2 _ (List.getElem_mem hi)
theorem getRec_good {s : ByteArray} (h : (getRec s).2.1 = true) : RecG (getRec s).1 := by
  unfold getRec at h ⊢
  split at h
  · rename_i hg
    rw [if_pos hg]
    simp only [recGood, Bool.and_eq_true] at hg
    exact ⟨hg.1.2, recAt_byt (byt_bytesOf s)⟩
  · cases h

theorem scan_step (d : TDisk) (h : Secs d.1) (l : Int × Int × List TRec × Unit) (h0 : 0 ≤ l.2.1) : L_i_ScanRecs_0 P_i_GetRec d l = L_s_ScanRecs_0 P_s_GetRec d l := by
  simp only [L_i_ScanRecs_0, L_s_ScanRecs_0]
  by_cases hi : l.2.1 < (d.1.length : Int)
  · obtain ⟨i, hn⟩ : ∃ i : Nat, l.2.1 = (i : Int) := ⟨l.2.1.toNat, by omega⟩
    rw [hn] at hi ⊢
    rw [s_GetRec_eq _ (secs_at h (by omega)), i_GetRec_eq _ (secs_at h (by omega))]
  · rw [dec_false hi]
    rfl

theorem scan_ok (d : TDisk) (h : Secs d.1) : ∃ l, P_s_ScanRecs d = some (l, ()) ∧ P_i_ScanRecs d = some (l, ()) ∧ l.length ≤ d.1.length ∧ ∀ r ∈ l, RecG r := by
  have hl := h.1
  obtain ⟨z, e, hz1, hz2⟩ := loopO_ind (L_s_ScanRecs_0 P_s_GetRec d) (fun l => ((d.1.length : Int) - l.2.1).toNat) (fun l => 0 ≤ l.2.1 ∧ (List.length l.2.2.1 : Int) = l.2.1 ∧ l.2.1 ≤ (d.1.length : Int) ∧ ∀ r ∈ l.2.2.1, RecG r)
    (fun z => List.length z.1 ≤ d.1.length ∧ ∀ r ∈ z.1, RecG r) (fun l hl => by
      obtain ⟨h0, h1, h2, h3⟩ := hl
      simp only [L_s_ScanRecs_0]
      by_cases hi : l.2.1 < (d.1.length : Int)
      · obtain ⟨i, hn⟩ : ∃ i : Nat, l.2.1 = (i : Int) := ⟨l.2.1.toNat, by omega⟩
        rw [dec_true hi, dec_true h0]
        simp only [cond_true]
        rw [hn] at hi h0 h1 h2 ⊢
        rw [s_GetRec_eq _ (secs_at h (by omega))]
        simp only [bindO]
        have hg := @getRec_good (rd .str d.1 (i : Int))
        generalize getRec (rd .str d.1 (i : Int)) = g at hg ⊢
        have fin : List.length l.2.2.1 ≤ d.1.length ∧ ∀ r ∈ l.2.2.1, RecG r := ⟨by omega, h3⟩
        cases hk : g.2.1 with
        | false => exact .inr ⟨_, rfl, fin⟩
        | true =>
          simp only [Bool.not_true, cond_false]
          by_cases e1 : g.1.2.1 = (i : Int)
          · rw [dec_true e1]
            by_cases e2 : g.1.1 < l.1
            · rw [dec_true e2]; exact .inr ⟨_, rfl, fin⟩
            · rw [dec_false e2]
              simp only [Bool.not_true, cond_false]
              rw [dec_true (by simp; omega), dec_true (by simp; omega), w64 (by omega) (by omega)]
              refine .inl ⟨_, rfl, ⟨by simp only; omega, by simp; omega, by simp only; omega, fun r hr => ?_⟩, by simp only; omega⟩
              rcases List.mem_append.1 hr with hr | hr
              · exact h3 r hr
              · rw [List.mem_singleton.1 hr]; exact hg hk
          · rw [dec_false e1]; exact .inr ⟨_, rfl, fin⟩
      · rw [dec_false hi]
        exact .inr ⟨_, rfl, by simp only; omega, h3⟩) (0, 0, [], ()) ⟨by simp, by simp, by simp, fun r hr => by cases hr⟩
  refine ⟨z.1, e, ?_, hz1, hz2⟩
  simp only [P_i_ScanRecs, B_i_ScanRecs]
  rw [loopO_congr (g := L_s_ScanRecs_0 P_s_GetRec d) (fun l => 0 ≤ l.2.1) (fun l h0 => scan_step d h l h0) (fun l y h0 e => ?_) (by simp)]
  · exact e
  · simp only [L_i_ScanRecs_0] at e
    by_cases hi : l.2.1 < (d.1.length : Int)
    · obtain ⟨i, hn⟩ : ∃ i : Nat, l.2.1 = (i : Int) := ⟨l.2.1.toNat, by omega⟩
      rw [dec_true hi, dec_true h0] at e
      simp only [cond_true] at e
      rw [hn] at hi h0 e
      rw [i_GetRec_eq _ (secs_at h (by omega))] at e
      simp only [bindO] at e
      rw [w64 (n := (i : Int) + 1) (by omega) (by omega)] at e
      generalize getRec (rd .str d.1 (i : Int)) = g at e
      cases hk : g.2.1 <;> simp only [hk, Bool.not_true, Bool.not_false, cond_true, cond_false] at e
      · cases e
      · revert e
        cases decide (g.1.2.1 = (i : Int)) <;> cases decide (g.1.1 < l.1) <;> simp only [Bool.not_true, Bool.not_false, cond_true, cond_false]
        · intro e; cases e
        · intro e; cases e
        · cases decide (List.length l.2.2.1 + List.length [g.1] ≤ 9223372036854775807) <;> cases decide ((List.length l.2.2.1 + List.length [g.1]) * 72 ≤ 140737488355328) <;> intro e
          · cases e
          · cases e
          · cases e
          · simp only [cond_true] at e
            injection e with e; injection e with e; subst e
            simp only; omega
        · intro e; cases e
    · rw [dec_false hi] at e
      cases e

theorem diskOk_eq : P_i_DiskOk = P_s_DiskOk := rfl
theorem s_DiskOk_ok (d : TDisk) (h : d.1.length ≤ 1048576) : ∃ b, P_s_DiskOk d = some (b, ()) ∧ (b = true → d.1.length = d.2.length ∧ d.1.length ≤ 200) := by
  simp only [P_s_DiskOk, B_s_DiskOk]
  by_cases h1 : (d.1.length : Int) = (d.2.length : Int)
  · rw [dec_true h1]
    by_cases h2 : (d.1.length : Int) > 200
    · rw [dec_true h2]
      exact ⟨_, rfl, fun e => by cases e⟩
    · rw [dec_false h2]
      simp only [Bool.not_true, cond_false, bindS]
      refine ⟨_, loopB (L_s_DiskOk_0 d) d.1.length (by simp only [maxLen]; omega) (fun i => !decide (((rd .str d.1 (i : Int)).size : Int) > 64) && !decide (((rd .str d.2 (i : Int)).size : Int) > 64)) (fun i hi => ?_) (by simp [L_s_DiskOk_0]), fun _ => by omega⟩
      have g1 : ((i : Int) < (d.1.length : Int)) := by omega
      have g2 : (0 : Int) ≤ (i : Int) := by omega
      have g3 : ((i : Int) < (d.2.length : Int)) := by omega
      simp only [L_s_DiskOk_0, dec_true g1, dec_true g2, dec_true g3, cond_true]
      cases decide (((rd .str d.1 (i : Int)).size : Int) > 64) <;> cases decide (((rd .str d.2 (i : Int)).size : Int) > 64) <;> rfl
  · rw [dec_false h1]
    exact ⟨_, rfl, fun e => by cases e⟩

/-- Two uploads that are the same. -/
def sameUpB (a b : TUp) : Bool := (a.1.toList == b.1.toList) && decide (a.2.1 = b.2.1) && (a.2.2.2 == b.2.2.2) && ((strOf a.2.2.1).toList == (strOf b.2.2.1).toList)
def sameUpsB (a b : List TUp) : Bool := decide (a.length = b.length) && (List.range a.length).all fun i => sameUpB (rd kUp a (i : Int)) (rd kUp b (i : Int))

theorem i_sameUp_eq (a b : TUp) : P_i_sameUp a b = some (sameUpB a b, ()) := by
  simp only [P_i_sameUp, B_i_sameUp, P_bytes_Equal, B_bytes_Equal, bindO, sameUpB]
  cases (a.1.toList == b.1.toList) <;> cases decide (a.2.1 = b.2.1) <;> cases (a.2.2.2 == b.2.2.2) <;> rfl
theorem i_same_eq (a b : List TUp) (h : a.length ≤ maxLen) : P_slices_EqualFunc_impl_Up_impl_Up_impl_Up_impl_Up_r1002_152 a b () = some (sameUpsB a b, ()) := by
  simp only [P_slices_EqualFunc_impl_Up_impl_Up_impl_Up_impl_Up_r1002_152, B_slices_EqualFunc_impl_Up_impl_Up_impl_Up_impl_Up_r1002_152, sameUpsB]
  by_cases hl : a.length = b.length
  · rw [dec_true (show (a.length : Int) = (b.length : Int) by omega), dec_true hl]
    simp only [Bool.not_true, cond_false, Bool.true_and]
    refine loopB _ a.length h (fun i => sameUpB (rd kUp a (i : Int)) (rd kUp b (i : Int))) (fun i hi => ?_) (by simp [L_slices_EqualFunc_impl_Up_impl_Up_impl_Up_impl_Up_r1002_152_0])
    have g1 : ((i : Int) < (a.length : Int)) := by omega
    have g2 : (0 : Int) ≤ (i : Int) := by omega
    have g3 : ((i : Int) < (b.length : Int)) := by omega
    simp only [L_slices_EqualFunc_impl_Up_impl_Up_impl_Up_impl_Up_r1002_152_0, dec_true g1, dec_true g2, dec_true g3, cond_true, i_sameUp_eq, bindO]
    cases sameUpB (rd kUp a (i : Int)) (rd kUp b (i : Int)) <;> rfl
  · rw [dec_false (show ¬ (a.length : Int) = (b.length : Int) by omega), dec_false hl]
    rfl
theorem s_same_eq (a b : List TUp) (h : a.length ≤ maxLen) : P_s_l14SameUps a b = some (sameUpsB a b, ()) := by
  simp only [P_s_l14SameUps, B_s_l14SameUps, sameUpsB]
  by_cases hl : a.length = b.length
  · rw [dec_true (show (a.length : Int) = (b.length : Int) by omega), dec_true hl]
    simp only [Bool.not_true, cond_false, Bool.true_and]
    refine loopB _ a.length h (fun i => sameUpB (rd kUp a (i : Int)) (rd kUp b (i : Int))) (fun i hi => ?_) (by simp [L_s_l14SameUps_0])
    have g1 : ((i : Int) < (a.length : Int)) := by omega
    have g2 : (0 : Int) ≤ (i : Int) := by omega
    have g3 : ((i : Int) < (b.length : Int)) := by omega
    simp only [L_s_l14SameUps_0, dec_true g1, dec_true g2, dec_true g3, cond_true, sameUpB]
    cases ((rd kUp a (i : Int)).1.toList == (rd kUp b (i : Int)).1.toList) <;> cases decide ((rd kUp a (i : Int)).2.1 = (rd kUp b (i : Int)).2.1) <;> cases ((rd kUp a (i : Int)).2.2.2 == (rd kUp b (i : Int)).2.2.2) <;> cases ((strOf (rd kUp a (i : Int)).2.2.1).toList == (strOf (rd kUp b (i : Int)).2.2.1).toList) <;> rfl
  · rw [dec_false (show ¬ (a.length : Int) = (b.length : Int) by omega), dec_false hl]
    rfl

/-- A sector with a record that is not older than e. -/
def newer (e : Int) (s : ByteArray) : Bool := (getRec s).2.1 && decide ((getRec s).1.1 ≥ e)
def topOf (t : Int) (s : ByteArray) : Int := bif (getRec s).2.1 then (bif decide ((getRec s).1.1 > t) then (getRec s).1.1 else t) else t
def topL (l : List ByteArray) : Int := l.foldl topOf (-1)
theorem foldl_top (e : Int) : ∀ (l : List ByteArray) (t : Int), decide (l.foldl topOf t < e) = (decide (t < e) && l.all fun s => !newer e s)
  | [], t => (Bool.and_true _).symm
  | s :: l, t => by
    rw [List.foldl_cons, foldl_top e l, List.all_cons]
    unfold topOf newer
    cases (getRec s).2.1 with
    | false => simp
    | true =>
      simp only [cond_true, Bool.true_and]
      by_cases h1 : (getRec s).1.1 > t
      · rw [dec_true h1]
        by_cases h2 : (getRec s).1.1 ≥ e
        · rw [dec_true h2]
          simp only [cond_true]
          rw [dec_false (show ¬ (getRec s).1.1 < e by omega)]
          simp
        · rw [dec_false h2]
          simp only [cond_true]
          rw [dec_true (show (getRec s).1.1 < e by omega), dec_true (show t < e by omega)]
          simp
      · rw [dec_false h1]
        simp only [cond_false]
        by_cases h3 : t < e
        · rw [dec_true h3, dec_false (show ¬ (getRec s).1.1 ≥ e by omega)]
          simp
        · rw [dec_false h3]
          simp
theorem i_topFrom_eq (l : List ByteArray) (h : Secs l) : P_i_topFrom l = some (topL l, ()) := by
  have hl := h.1
  simp only [P_i_topFrom, B_i_topFrom]
  have key := loopO_count (L_i_topFrom_0 P_i_GetRec l) (fun i => ((l.take i).foldl topOf (-1), (i : Int), ())) l.length (topL l, ()) (fun i hi => ?_) ?_
  · simpa using key
  · have g1 : ((i : Int) < (l.length : Int)) := by omega
    have g2 : (0 : Int) ≤ (i : Int) := by omega
    simp only [L_i_topFrom_0, dec_true g1, dec_true g2, cond_true]
    rw [i_GetRec_eq _ (secs_at h hi), w64 (by omega) (by omega)]
    simp only [bindO]
    have e : (l.take (i + 1)).foldl topOf (-1) = topOf ((l.take i).foldl topOf (-1)) (rd .str l (i : Int)) := by
      rw [List.take_succ_eq_append_getElem hi, List.foldl_append, rd_str hi]
      rfl
    rw [e]
    unfold topOf
    cases (getRec (rd .str l (i : Int))).2.1 <;> rfl
  · simp [L_i_topFrom_0, topL]

theorem firstN_all (go : Nat → Bool) (n : Nat) : decide (firstN go 0 n = n) = (List.range n).all go := by
  rw [Bool.eq_iff_iff]
  simp only [decide_eq_true_eq, List.all_eq_true, List.mem_range]
  constructor
  · intro h j hj
    exact firstN_goes go n 0 j (by omega) (by omega)
  · intro h
    exact firstN_uniq go n n (Nat.le_refl _) h (fun h => by omega)

theorem s_tail_eq (st : TStore) (h : Secs st.1.1) (n : Nat) (hn : n ≤ st.1.1.length) : loopO (L_s_StoreOk_0 P_s_GetRec st) ((n : Int), ()) = some ((st.1.1.drop n).all fun s => !newer st.2.1 s, ()) := by
  have hl := h.1
  have key := loopO_first (L_s_StoreOk_0 P_s_GetRec st) (fun j => (((n + j : Nat) : Int), ())) (st.1.1.length - n) (fun j => (decide (j = st.1.1.length - n), ())) (fun j => !newer st.2.1 (rd .str st.1.1 ((n + j : Nat) : Int))) (fun j hj => ?_) ?_
  · have e : loopO (L_s_StoreOk_0 P_s_GetRec st) ((n : Int), ()) = _ := key
    rw [e, firstN_all]
    congr 2
    rw [Bool.eq_iff_iff]
    simp only [List.all_eq_true, List.mem_range]
    constructor
    · intro h2 s hs
      obtain ⟨j, hj, rfl⟩ := List.getElem_of_mem hs
      rw [List.length_drop] at hj
      have := h2 j hj
      rw [rd_str (by omega)] at this
      rw [List.getElem_drop]
      exact this
    · intro h2 j hj
      rw [rd_str (by omega)]
      refine h2 _ ?_
      rw [List.mem_iff_getElem]
      exact ⟨j, by rw [List.length_drop]; omega, by rw [List.getElem_drop]⟩
  · have g1 : (((n + j : Nat) : Int) < (st.1.1.length : Int)) := by omega
    have g2 : (0 : Int) ≤ ((n + j : Nat) : Int) := by omega
    simp only [L_s_StoreOk_0, dec_true g1, dec_true g2, cond_true]
    rw [s_GetRec_eq _ (secs_at h (by omega)), w64 (by omega) (by omega)]
    simp only [bindO, newer]
    rw [dec_false (show ¬ j = st.1.1.length - n by omega)]
    have e2 : n + (j + 1) = (n + j) + 1 := by omega
    simp only [e2, Int.natCast_succ]
    cases (getRec (rd .str st.1.1 ((n + j : Nat) : Int))).2.1 <;> cases decide ((getRec (rd .str st.1.1 ((n + j : Nat) : Int))).1.1 ≥ st.2.1) <;> rfl
  · have g1 : ¬ (((n + (st.1.1.length - n) : Nat) : Int) < (st.1.1.length : Int)) := by omega
    simp only [L_s_StoreOk_0, dec_false g1, cond_false]
    simp

/-- What is known of a store that is right. -/
def StoreG (st : TStore) : Prop := 0 ≤ st.2.1 ∧ st.2.1 ≤ 10000 ∧ st.1.1.length = st.1.2.length ∧ st.1.1.length ≤ 200 ∧ (0 ≤ st.2.2.1 ∧ st.2.2.1 ≤ (st.1.1.length : Int)) ∧ ∃ us, Ups us ∧ sameUpsB us st.2.2.2 = true

theorem storeOk_eq (st : TStore) (h : Secs st.1.1) : ∃ b, P_s_StoreOk st = some (b, ()) ∧ P_i_StoreOk st = some (b, ()) ∧ (b = true → StoreG st) := by
  have hl := h.1
  obtain ⟨bd, hd, hdt⟩ := s_DiskOk_ok st.1 hl
  obtain ⟨l, hs, hi, hll, hrg⟩ := scan_ok st.1 h
  have hfs := s_FoldRecs_eq l (by simp only [maxLen]; omega) hrg
  have hfi := i_FoldRecs_eq l (by simp only [maxLen]; omega) hrg
  have hups : (foldRecs l).2.1 = true → Ups (foldRecs l).1 := by
    intro e
    unfold foldRecs at e ⊢
    split
    · rename_i us' e1
      exact foldAll_ups ups_nil hrg e1
    · rename_i e1
      rw [e1] at e; cases e
  simp only [P_s_StoreOk, B_s_StoreOk, P_i_StoreOk, B_i_StoreOk, diskOk_eq, hd, hs, hi, hfs, hfi, P_i_isEpoch, B_i_isEpoch, l1In_eq, inRange_eq, bindO]
  cases bd with
  | false =>
    by_cases he : 0 ≤ st.2.1 ∧ st.2.1 ≤ 10000
    · rw [dec_true he]
      exact ⟨_, rfl, rfl, fun e => by cases e⟩
    · rw [dec_false he]
      exact ⟨_, rfl, rfl, fun e => by cases e⟩
  | true =>
    cases he' : decide (0 ≤ st.2.1 ∧ st.2.1 ≤ 10000) with
    | false => exact ⟨_, rfl, rfl, fun e => by cases e⟩
    | true =>
      have he := of_decide_eq_true he'
      have hd2 := hdt rfl
      simp only [Bool.not_true, cond_false, bindS]
      generalize hf : foldRecs l = fr at hups
      cases hk : fr.2.1 with
      | false => exact ⟨_, rfl, rfl, fun e => by cases e⟩
      | true =>
        have hu := hups hk
        have hul := hu.2.1
        rw [s_same_eq _ _ (show fr.1.length ≤ maxLen by simp only [maxLen]; omega), i_same_eq _ _ (show fr.1.length ≤ maxLen by simp only [maxLen]; omega)]
        simp only [Bool.not_true, cond_false]
        cases hn' : decide (st.2.2.1 = (List.length l : Int)) with
        | false =>
          cases sameUpsB fr.1 st.2.2.2 <;> exact ⟨_, rfl, rfl, fun e => by cases e⟩
        | true =>
          have hn := of_decide_eq_true hn'
          cases hsm : sameUpsB fr.1 st.2.2.2 with
          | false => exact ⟨_, rfl, rfl, fun e => by cases e⟩
          | true =>
            have hg : StoreG st := ⟨he.1, he.2, hd2.1, hd2.2, by omega, fr.1, hu, hsm⟩
            simp only [Bool.not_true, cond_false]
            rw [hn, s_tail_eq st h l.length hll, dec_true (show (0 : Int) ≤ (List.length l : Int) by omega), dec_true (show (List.length l : Int) ≤ (st.1.1.length : Int) by omega), Int.toNat_natCast, List.take_length]
            simp only [cond_true]
            have hdr : Secs (st.1.1.drop l.length) := ⟨by rw [List.length_drop]; omega, fun s hs => h.2 s (List.mem_of_mem_drop hs)⟩
            rw [i_topFrom_eq _ hdr]
            have htop : decide (st.2.1 > topL (st.1.1.drop l.length)) = ((st.1.1.drop l.length).all fun s => !newer st.2.1 s) := by
              have := foldl_top st.2.1 (st.1.1.drop l.length) (-1)
              rw [dec_true (show (-1 : Int) < st.2.1 by omega), Bool.true_and] at this
              exact this
            simp only [htop]
            by_cases hl0 : (List.length l : Int) > 0
            · rw [dec_true hl0, w64 (n := (List.length l : Int) - 1) (by omega) (by omega), dec_true (show (0 : Int) ≤ (List.length l : Int) - 1 by omega), dec_true (show (List.length l : Int) - 1 < (List.length l : Int) by omega)]
              simp only [cond_true]
              have hlt : decide (st.2.1 < (rd kRec l ((List.length l : Int) - 1)).1) = decide ((rd kRec l ((List.length l : Int) - 1)).1 > st.2.1) := rfl
              rw [hlt]
              cases decide ((rd kRec l ((List.length l : Int) - 1)).1 > st.2.1) with
              | true => exact ⟨_, rfl, rfl, fun e => by cases e⟩
              | false => exact ⟨_, rfl, rfl, fun _ => hg⟩
            · rw [dec_false hl0]
              exact ⟨_, rfl, rfl, fun _ => hg⟩

theorem i_held_step (x : TServer) : L_i_ServerOk_0 P_i_RespOk x = L_s_ServerOk_0 P_s_RespOk x := by
  have e : P_i_RespOk = P_s_RespOk := by funext r; rw [i_RespOk_eq, s_RespOk_eq]
  rw [e]
  rfl
theorem held_ok (x : TServer) (h : x.2.length ≤ 1048576) : ∃ z, loopO (L_s_ServerOk_0 P_s_RespOk x) (0, ()) = some z ∧ (z = .inl () ∨ z = .inr (false, ())) := by
  have key := loopO_first (L_s_ServerOk_0 P_s_RespOk x) (fun i => ((i : Int), ())) x.2.length (fun i => if i < x.2.length then .inr (false, ()) else .inl ()) (fun i => respOkB (rd kHeld x.2 (i : Int)).2) (fun i hi => ?_) ?_
  · refine ⟨_, key, ?_⟩
    split
    · exact .inr rfl
    · exact .inl rfl
  · have g1 : ((i : Int) < (x.2.length : Int)) := by omega
    have g2 : (0 : Int) ≤ (i : Int) := by omega
    simp only [L_s_ServerOk_0, dec_true g1, dec_true g2, cond_true, s_RespOk_eq, bindO, if_pos hi]
    rw [w64 (by omega) (by omega)]
    cases respOkB (rd kHeld x.2 (i : Int)).2 <;> rfl
  · simp [L_s_ServerOk_0]

theorem serverOk_eq (x : TServer) (h : Secs x.1.1.1) (h2 : x.2.length ≤ 1048576) : ∃ b, P_s_ServerOk x = some (b, ()) ∧ P_i_ServerOk x = some (b, ()) ∧ (b = true → P_s_StoreOk x.1 = some (true, ()) ∧ StoreG x.1 ∧ x.2.length ≤ 200) := by
  obtain ⟨z, hz, hz2⟩ := held_ok x h2
  obtain ⟨b, hs, hi, hg⟩ := storeOk_eq x.1 h
  simp only [P_s_ServerOk, B_s_ServerOk, P_i_ServerOk, B_i_ServerOk, i_held_step, hz, hs, hi]
  rcases hz2 with rfl | rfl
  · by_cases hl : (x.2.length : Int) ≤ 200
    · rw [dec_true hl]
      exact ⟨b, rfl, rfl, fun e => ⟨by rw [e], hg e, by omega⟩⟩
    · rw [dec_false hl]
      exact ⟨_, rfl, rfl, fun e => by cases e⟩
  · exact ⟨_, rfl, rfl, fun e => by cases e⟩

theorem sm_secs {N : Nat} {e : Nat} {l : List ByteArray} (hN : N ≤ 1048576) (h : Sm N (.sl e .str) l) : Secs l := ⟨by have : l.length ≤ N := h.1; omega, fun s hs => by have : s.size ≤ N := h.2 s hs; omega⟩
end Go.Proofs.YtmdbndbfhgdhfaaGreat.Ev
