/- Records: what RecOk, PutRec and GetRec answer, of the program and of the reference. -/
import Derived.Test.YtmdbndbfhgdhfaaGreatPa
set_option linter.unusedVariables false
set_option linter.unusedSimpArgs false
namespace Go.Proofs.YtmdbndbfhgdhfaaGreat.Ev

def recOkB (r : TRec) : Bool :=
  decide (0 ≤ r.1 ∧ r.1 ≤ 10000) && decide (0 ≤ r.2.1 ∧ r.2.1 ≤ 199) && idB r.2.2.2.1 &&
  (if r.2.2.1 = 1 then decide (0 ≤ r.2.2.2.2.1 ∧ r.2.2.2.2.1 ≤ 1000000000) && decide ((List.length r.2.2.2.2.2 : Int) = 0)
   else if r.2.2.1 = 2 then decide (0 ≤ r.2.2.2.2.1 ∧ r.2.2.2.2.1 ≤ 1000000000) && decide (1 ≤ (List.length r.2.2.2.2.2 : Int) ∧ (List.length r.2.2.2.2.2 : Int) ≤ 24)
   else if r.2.2.1 = 3 ∨ r.2.2.1 = 4 then decide (r.2.2.2.2.1 = 0) && decide ((List.length r.2.2.2.2.2 : Int) = 0) else false)

theorem s_RecOk_eq (r : TRec) (h : r.2.2.2.1.size ≤ maxLen) : P_s_RecOk r = some (recOkB r, ()) := by
  simp only [P_s_RecOk, B_s_RecOk, l11Id_eq _ h, l1In_eq, bindO, recOkB]
  cases decide (0 ≤ r.1 ∧ r.1 ≤ 10000)
  · rfl
  cases decide (0 ≤ r.2.1 ∧ r.2.1 ≤ 199)
  · rfl
  cases idB r.2.2.2.1
  · rfl
  simp only [Bool.not_true, cond_false, bindS, Bool.true_and]
  by_cases h1 : r.2.2.1 = 1
  · rw [dec_true h1, if_pos h1]
    cases decide (0 ≤ r.2.2.2.2.1 ∧ r.2.2.2.2.1 ≤ 1000000000) <;> rfl
  rw [dec_false h1, if_neg h1]
  by_cases h2 : r.2.2.1 = 2
  · rw [dec_true h2, if_pos h2]
    cases decide (0 ≤ r.2.2.2.2.1 ∧ r.2.2.2.2.1 ≤ 1000000000) <;> rfl
  rw [dec_false h2, if_neg h2]
  by_cases h3 : r.2.2.1 = 3
  · rw [dec_true h3, if_pos (.inl h3)]
    cases decide (r.2.2.2.2.1 = 0) <;> rfl
  rw [dec_false h3]
  by_cases h4 : r.2.2.1 = 4
  · rw [dec_true h4, if_pos (.inr h4)]
    cases decide (r.2.2.2.2.1 = 0) <;> rfl
  rw [dec_false h4, if_neg (by omega)]
  rfl

theorem i_RecOk_eq (r : TRec) (h : r.2.2.2.1.size ≤ maxLen) : P_i_RecOk r = some (recOkB r, ()) := by
  simp only [P_i_RecOk, B_i_RecOk, P_i_isEpoch, B_i_isEpoch, idOk_eq _ h, inRange_eq, bindO, recOkB]
  cases decide (0 ≤ r.1 ∧ r.1 ≤ 10000)
  · rfl
  cases decide (0 ≤ r.2.1 ∧ r.2.1 ≤ 199)
  · rfl
  by_cases hk : 1 ≤ r.2.2.1 ∧ r.2.2.1 ≤ 4
  · rw [dec_true hk]
    cases idB r.2.2.2.1
    · rfl
    simp only [Bool.not_true, cond_false, bindS, Bool.true_and]
    by_cases h1 : r.2.2.1 = 1
    · rw [dec_true h1, if_pos h1]
      cases decide (0 ≤ r.2.2.2.2.1 ∧ r.2.2.2.2.1 ≤ 1000000000) <;> rfl
    rw [dec_false h1, if_neg h1]
    by_cases h2 : r.2.2.1 = 2
    · rw [dec_true h2, if_pos h2]
      cases decide (0 ≤ r.2.2.2.2.1 ∧ r.2.2.2.2.1 ≤ 1000000000) <;> rfl
    rw [dec_false h2, if_neg h2, if_pos (by omega)]
    cases decide (r.2.2.2.2.1 = 0) <;> rfl
  · rw [dec_false hk, if_neg (by omega), if_neg (by omega), if_neg (by omega)]
    cases idB r.2.2.2.1 <;> rfl

theorem recOk_bnd {r : TRec} (h : recOkB r = true) : 0 ≤ r.1 ∧ r.1 ≤ 10000 ∧ 1 ≤ r.2.2.1 ∧ r.2.2.1 ≤ 4 ∧ r.2.2.2.1.size ≤ 8 ∧ 0 ≤ r.2.2.2.2.1 ∧ r.2.2.2.2.1 ≤ 1000000000 ∧ List.length r.2.2.2.2.2 ≤ 24 := by
  simp only [recOkB, idB, Bool.and_eq_true, decide_eq_true_eq] at h
  obtain ⟨⟨⟨h1, h2⟩, h3, h4⟩, h5⟩ := h
  split at h5
  · simp only [Bool.and_eq_true, decide_eq_true_eq] at h5; omega
  · split at h5
    · simp only [Bool.and_eq_true, decide_eq_true_eq] at h5; omega
    · split at h5
      · simp only [Bool.and_eq_true, decide_eq_true_eq] at h5; omega
      · cases h5

theorem byt_app {a b : List Int} (ha : Byt a) (hb : Byt b) : Byt (a ++ b) := fun x hx => (List.mem_append.1 hx).elim (ha x) (hb x)
theorem byt_big (n : Int) (k : Nat) : Byt (big n k) := by
  intro x hx
  obtain ⟨j, _, rfl⟩ := List.mem_map.1 hx
  exact wrap_u8 _
theorem byt_bytesOf (s : ByteArray) : Byt (bytesOf s) := by
  intro x hx
  obtain ⟨b, _, rfl⟩ := List.mem_map.1 hx
  have := b.toNat_lt
  omega
theorem byt_nil : Byt [] := fun x hx => by cases hx
theorem byt_drop {a : List Int} (h : Byt a) (i : Nat) : Byt (a.drop i) := fun x hx => h x (List.mem_of_mem_drop hx)

/-- A record's bytes, ahead of its sum. -/
def recB (r : TRec) : List Int :=
  big (clamp r.1) 3 ++ big (clamp r.2.1) 2 ++ big (clamp r.2.2.1) 1 ++ big (clamp (r.2.2.2.1.size : Int)) 1 ++ bytesOf r.2.2.2.1 ++ big (clamp r.2.2.2.2.1) 4 ++ big (clamp (List.length r.2.2.2.2.2 : Int)) 1 ++ r.2.2.2.2.2
def crcI (b : List Int) : Int := ((crcL b ^^^ 4294967295 : Nat) : Int)
def putRec (r : TRec) : ByteArray := strOf (recB r ++ big (clamp (crcI (recB r))) 4)

theorem recB_len (r : TRec) : (recB r).length = 12 + r.2.2.2.1.size + List.length r.2.2.2.2.2 := by
  simp only [recB, List.length_append, big_len, bytesOf_length]
  omega
theorem recB_byt (r : TRec) (h : Byt r.2.2.2.2.2) : Byt (recB r) := by
  unfold recB
  repeat' first | apply byt_app | apply byt_big | apply byt_bytesOf | exact h

theorem s_l13Put_eq (r : TRec) (h1 : r.2.2.2.1.size ≤ 10000000) (h2 : List.length r.2.2.2.2.2 ≤ 10000000) (hb : Byt r.2.2.2.2.2) : P_s_l13Put r = some (putRec r, ()) := by
  have hlen := recB_len r
  simp only [P_s_l13Put, B_s_l13Put]
  rw [show (3 : Int) = ((3 : Nat) : Int) from rfl, s_PutBig_eq [] _ 3 (by omega) (by omega) (by simp)]
  simp only [bindO, List.nil_append]
  rw [show (2 : Int) = ((2 : Nat) : Int) from rfl, s_PutBig_eq _ _ 2 (by omega) (by omega) (by simp [big_len])]
  simp only
  rw [show (1 : Int) = ((1 : Nat) : Int) from rfl, s_PutBig_eq _ _ 1 (by omega) (by omega) (by simp [big_len])]
  simp only
  rw [s_PutBig_eq _ _ 1 (by omega) (by omega) (by simp [big_len])]
  simp only
  rw [dec_true (by simp [big_len]; omega)]
  simp only [cond_true]
  rw [show (4 : Int) = ((4 : Nat) : Int) from rfl, s_PutBig_eq _ _ 4 (by omega) (by omega) (by simp [big_len, bytesOf_length]; omega)]
  simp only
  rw [s_PutBig_eq _ _ 1 (by omega) (by omega) (by simp [big_len, bytesOf_length]; omega)]
  simp only
  rw [dec_true (by simp [big_len, bytesOf_length]; omega), dec_true (by simp [big_len, bytesOf_length]; omega)]
  simp only [cond_true]
  have e : big (clamp r.1) 3 ++ big (clamp r.2.1) 2 ++ big (clamp r.2.2.1) 1 ++ big (clamp (r.2.2.2.1.size : Int)) 1 ++ bytesOf r.2.2.2.1 ++ big (clamp r.2.2.2.2.1) 4 ++ big (clamp (List.length r.2.2.2.2.2 : Int)) 1 ++ r.2.2.2.2.2 = recB r := rfl
  rw [e, s_Crc_eq _ (recB_byt r hb) (by rw [hlen]; simp only [maxLen]; omega)]
  simp only
  rw [s_PutBig_eq _ _ 4 (by omega) (by omega) (by rw [hlen]; omega)]
  rfl

theorem big_one (n : Int) : big n 1 = [IntKind.u8.wrap n] := by
  simp [big, bigAt]
theorem clamp_nn {n : Int} (h : 0 ≤ n) : clamp n = n := by unfold clamp; rw [if_neg (by omega)]

theorem i_PutRec_eq (r : TRec) (h1 : r.2.2.2.1.size ≤ maxLen) (hb : Byt r.2.2.2.2.2) : P_i_PutRec r = some (if recOkB r then putRec r else ⟨#[]⟩, ()) := by
  simp only [P_i_PutRec, B_i_PutRec, i_RecOk_eq r h1]
  cases hr : recOkB r with
  | false => rfl
  | true =>
    have hbd := recOk_bnd hr
    have hlen := recB_len r
    simp only [bindO, Bool.not_true, cond_false]
    rw [show (3 : Int) = ((3 : Nat) : Int) from rfl, i_putBig_eq [] _ 3 (by omega) (by simp)]
    simp only [List.nil_append]
    rw [show (2 : Int) = ((2 : Nat) : Int) from rfl, i_putBig_eq _ _ 2 (by omega) (by simp [big_len])]
    simp only
    rw [dec_true (by simp [big_len]), dec_true (by simp [big_len])]
    simp only [cond_true]
    rw [dec_true (by simp [big_len]; omega)]
    simp only [cond_true]
    rw [show (4 : Int) = ((4 : Nat) : Int) from rfl, i_putBig_eq _ _ 4 (by omega) (by simp [big_len, bytesOf_length]; omega)]
    simp only
    rw [dec_true (by simp [big_len, bytesOf_length]; omega), dec_true (by simp [big_len, bytesOf_length]; omega)]
    simp only [cond_true]
    rw [dec_true (by simp [big_len, bytesOf_length]; omega), dec_true (by simp [big_len, bytesOf_length]; omega)]
    simp only [cond_true]
    have e : big (clamp r.1) 3 ++ big (clamp r.2.1) 2 ++ [IntKind.u8.wrap r.2.2.1, IntKind.u8.wrap (r.2.2.2.1.size : Int)] ++ bytesOf r.2.2.2.1 ++ big (clamp r.2.2.2.2.1) 4 ++ [IntKind.u8.wrap (List.length r.2.2.2.2.2 : Int)] ++ r.2.2.2.2.2 = recB r := by
      unfold recB
      rw [big_one, big_one, big_one, clamp_nn (n := r.2.2.1) (by omega), clamp_nn (n := (r.2.2.2.1.size : Int)) (by omega), clamp_nn (n := (List.length r.2.2.2.2.2 : Int)) (by omega)]
      simp [List.append_assoc]
    rw [e, i_Crc_eq _ (recB_byt r hb) (by rw [hlen]; simp only [maxLen]; omega)]
    simp only
    rw [i_putBig_eq _ _ 4 (by omega) (by rw [hlen]; omega)]
    rfl

def idLen (b : List Int) : Nat := bigN b 6 1
def datLen (b : List Int) : Nat := bigN b (11 + idLen b) 1
/-- The record that bytes tell, if they are long enough. -/
def recAt (b : List Int) : TRec := ((bigN b 0 3 : Int), (bigN b 3 2 : Int), (bigN b 5 1 : Int), strOf ((b.take (7 + idLen b)).drop 7), (bigN b (7 + idLen b) 4 : Int), (b.take (12 + idLen b + datLen b)).drop (12 + idLen b))
def noRec : TRec × Bool × Unit := ((0, 0, 0, ⟨#[]⟩, 0, []), false, ())
def recGood (s : ByteArray) : Bool := decide (12 + idLen (bytesOf s) + datLen (bytesOf s) ≤ s.size) && recOkB (recAt (bytesOf s)) && ((putRec (recAt (bytesOf s))).toList == s.toList)
def getRec (s : ByteArray) : TRec × Bool × Unit := if recGood s = true then (recAt (bytesOf s), true, ()) else noRec

theorem getBig_ok (b : List Int) (a k : Nat) (h : a + k ≤ b.length) : getBig b (a : Int) k = ((bigN b a k : Int), true, ()) := by
  unfold getBig
  rw [if_pos (by omega), Int.toNat_natCast]
theorem getBig_no (b : List Int) (a k : Nat) (h : ¬ a + k ≤ b.length) : getBig b (a : Int) k = (0, false, ()) := by
  unfold getBig
  rw [if_neg (by omega)]
theorem big1_lt {b : List Int} (hb : Byt b) (a : Nat) : bigN b a 1 < 256 := by
  have := bigN_lt hb a 1
  omega
theorem recAt_len (b : List Int) (h : 12 + idLen b + datLen b ≤ b.length) : (recAt b).2.2.2.1.size = idLen b ∧ List.length (recAt b).2.2.2.2.2 = datLen b := by
  simp only [recAt, strOf_size, List.length_drop, List.length_take]
  omega
theorem recAt_byt {b : List Int} (hb : Byt b) : Byt (recAt b).2.2.2.2.2 := byt_drop (byt_take hb _) _

theorem s_GetRec_eq (s : ByteArray) (hs : s.size ≤ 1048576) : P_s_GetRec s = some (getRec s) := by
  have hbl := bytesOf_length s
  have hb := byt_bytesOf s
  have hh : (bytesOf s).length ≤ 1048576 := by omega
  have hsz : s.size = (bytesOf s).length := hbl.symm
  simp only [getRec, recGood, hsz]
  have hlen : decide ((bytesOf s).length ≤ 9223372036854775807) = true := dec_true (by omega)
  simp only [P_s_GetRec, B_s_GetRec, hsz, hlen, cond_true]
  clear hlen hsz
  generalize bytesOf s = b at hb hh ⊢
  clear hbl
  have g0 : ∀ (a : Int) (k : Nat) (k' : Int), k' = (k : Int) → 1 ≤ k ∧ k ≤ 7 → P_s_GetBig b a k' = some (getBig b a k) := fun a k k' e hk => by rw [e]; exact s_GetBig_eq b hb hh a k hk
  have q0 := g0 0 3 3 rfl (by omega)
  have q3 := g0 3 2 2 rfl (by omega)
  have q5 := g0 5 1 1 rfl (by omega)
  have q6 := g0 6 1 1 rfl (by omega)
  simp only [q0, q3, q5, q6]
  by_cases c1 : 7 ≤ b.length
  · have e0 := getBig_ok b 0 3 (by omega)
    have e3 := getBig_ok b 3 2 (by omega)
    have e5 := getBig_ok b 5 1 (by omega)
    have e6 := getBig_ok b 6 1 (by omega)
    simp only [Int.cast_ofNat_Int] at e0 e3 e5 e6
    have hn := big1_lt hb 6
    have hN : (bigN b 6 1 : Int) = ((idLen b : Nat) : Int) := rfl
    have hn' : idLen b < 256 := hn
    simp only [e0, e3, e5, e6, bindO, Bool.not_true, cond_false, hN]
    rw [w64 (n := 7 + (idLen b : Int)) (by omega) (by omega), w64 (n := 11 + (idLen b : Int)) (by omega) (by omega), w64 (n := 12 + (idLen b : Int)) (by omega) (by omega)]
    by_cases c2 : 7 + idLen b ≤ b.length
    · rw [dec_false (show ¬ 7 + (idLen b : Int) > (b.length : Int) by omega)]
      simp only [cond_false, bindS]
      rw [dec_true (show 7 ≤ 7 + (idLen b : Int) by omega), dec_true (show 7 + (idLen b : Int) ≤ (b.length : Int) by omega)]
      simp only [cond_true]
      have q7 := g0 (7 + (idLen b : Int)) 4 4 rfl (by omega)
      have q11 := g0 (11 + (idLen b : Int)) 1 1 rfl (by omega)
      simp only [q7, q11]
      by_cases c3 : 12 + idLen b ≤ b.length
      · have e7 := getBig_ok b (7 + idLen b) 4 (by omega)
        have e11 := getBig_ok b (11 + idLen b) 1 (by omega)
        simp only [Int.natCast_add, Int.cast_ofNat_Int] at e7 e11
        have hm : datLen b < 256 := big1_lt hb _
        have hM : (bigN b (11 + idLen b) 1 : Int) = ((datLen b : Nat) : Int) := rfl
        simp only [e7, e11, Bool.not_true, cond_false, hM]
        rw [w64 (n := 12 + (idLen b : Int) + (datLen b : Int)) (by omega) (by omega)]
        by_cases c4 : 12 + idLen b + datLen b ≤ b.length
        · rw [dec_false (show ¬ 12 + (idLen b : Int) + (datLen b : Int) > (b.length : Int) by omega), dec_true (show 0 ≤ 12 + (idLen b : Int) by omega), dec_true (show 12 + (idLen b : Int) ≤ 12 + (idLen b : Int) + (datLen b : Int) by omega), dec_true (show 12 + (idLen b : Int) + (datLen b : Int) ≤ (b.length : Int) by omega)]
          simp only [cond_true, cond_false]
          rw [dec_true (by simp; omega), dec_true (by simp; omega)]
          have t1 : (7 + (idLen b : Int)).toNat = 7 + idLen b := by omega
          have t2 : (12 + (idLen b : Int) + (datLen b : Int)).toNat = 12 + idLen b + datLen b := by omega
          have t3 : (12 + (idLen b : Int)).toNat = 12 + idLen b := by omega
          simp only [cond_true, List.nil_append, t1, t2, t3]
          have hr : (((bigN b 0 3 : Nat) : Int), ((bigN b 3 2 : Nat) : Int), ((bigN b 5 1 : Nat) : Int), strOf ((b.take (7 + idLen b)).drop 7), ((bigN b (7 + idLen b) 4 : Nat) : Int), (b.take (12 + idLen b + datLen b)).drop (12 + idLen b)) = recAt b := rfl
          obtain ⟨l1, l2⟩ := recAt_len b c4
          rw [hr, s_RecOk_eq _ (by rw [l1]; simp only [maxLen]; omega), s_l13Put_eq _ (by rw [l1]; omega) (by rw [l2]; omega) (recAt_byt hb)]
          rw [dec_true c4]
          simp only [Bool.true_and]
          cases recOkB (recAt b)
          · rfl
          · cases hp : ((putRec (recAt b)).toList == s.toList)
            · rfl
            · rfl
        · rw [dec_true (show 12 + (idLen b : Int) + (datLen b : Int) > (b.length : Int) by omega), dec_false c4]
          rfl
      · have e11 := getBig_no b (11 + idLen b) 1 (by omega)
        simp only [Int.natCast_add, Int.cast_ofNat_Int] at e11
        simp only [e11]
        rw [dec_false (show ¬ 12 + idLen b + datLen b ≤ b.length by omega)]
        cases (getBig b (7 + (idLen b : Int)) 4).2.1 <;> rfl
    · rw [dec_true (show 7 + (idLen b : Int) > (b.length : Int) by omega), dec_false (show ¬ 12 + idLen b + datLen b ≤ b.length by omega)]
      rfl
  · have e6 := getBig_no b 6 1 (by omega)
    simp only [Int.cast_ofNat_Int] at e6
    rw [dec_false (show ¬ 12 + idLen b + datLen b ≤ b.length by omega)]
    simp only [e6, bindO]
    cases (getBig b 0 3).2.1 <;> cases (getBig b 3 2).2.1 <;> cases (getBig b 5 1).2.1 <;> rfl

theorem num_good {b : List Int} (hb : Byt b) (hh : b.length ≤ 1048576) (a k : Nat) (k' : Int) (e : k' = (k : Int)) (hk : 1 ≤ k ∧ k ≤ 7) (h : a + k ≤ b.length) : P_i_byteReader_number (b, (a : Int), false) k' = some ((bigN b a k : Int), (b, ((a + k : Nat) : Int), false), ()) := by
  subst e
  simp only [P_i_byteReader_number, B_i_byteReader_number, i_GetBig_eq b hb hh _ k hk, getBig_ok b a k h, bindO, bindS, Bool.not_true, cond_false]
  rw [w64 (by omega) (by omega)]
  rfl
theorem num_short {b : List Int} (hb : Byt b) (hh : b.length ≤ 1048576) (a k : Nat) (k' : Int) (e : k' = (k : Int)) (hk : 1 ≤ k ∧ k ≤ 7) (h : ¬ a + k ≤ b.length) : P_i_byteReader_number (b, (a : Int), false) k' = some (0, (b, (a : Int), true), ()) := by
  subst e
  simp only [P_i_byteReader_number, B_i_byteReader_number, i_GetBig_eq b hb hh _ k hk, getBig_no b a k h, bindO, bindS, Bool.not_false, cond_false, cond_true]
theorem num_bad {b : List Int} (hb : Byt b) (hh : b.length ≤ 1048576) (a : Int) (k : Nat) (k' : Int) (e : k' = (k : Int)) (hk : 1 ≤ k ∧ k ≤ 7) : P_i_byteReader_number (b, a, true) k' = some (0, (b, a, true), ()) := by
  subst e
  simp only [P_i_byteReader_number, B_i_byteReader_number, i_GetBig_eq b hb hh _ k hk, bindO, bindS, cond_true]
theorem take_bad (b : List Int) (a n : Int) : P_i_byteReader_take (b, a, true) n = some ([], (b, a, true), ()) := by
  simp only [P_i_byteReader_take, B_i_byteReader_take, cond_true, bindS]
theorem take_good {b : List Int} (hh : b.length ≤ 1048576) (a n : Nat) (h : a + n ≤ b.length) : P_i_byteReader_take (b, (a : Int), false) (n : Int) = some ((b.take (a + n)).drop a, (b, ((a + n : Nat) : Int), false), ()) := by
  simp only [P_i_byteReader_take, B_i_byteReader_take, cond_false]
  rw [w64 (n := (b.length : Int) - (a : Int)) (by omega) (by omega), dec_false (by omega), w64 (n := (a : Int) + (n : Int)) (by omega) (by omega), w64 (n := (a : Int) + (n : Int) - (n : Int)) (by omega) (by omega)]
  simp only [cond_false, bindS]
  rw [dec_true (by omega), dec_true (by omega), dec_true (by omega)]
  simp only [cond_true]
  rw [clone_byte_eq _ (by simp; omega), show ((a : Int) + (n : Int)).toNat = a + n by omega, show ((a : Int) + (n : Int) - (n : Int)).toNat = a by omega]
  rfl
theorem take_short {b : List Int} (hh : b.length ≤ 1048576) (a n : Nat) (ha : a ≤ b.length) (h : ¬ a + n ≤ b.length) : P_i_byteReader_take (b, (a : Int), false) (n : Int) = some ([], (b, (a : Int), true), ()) := by
  simp only [P_i_byteReader_take, B_i_byteReader_take, cond_false]
  rw [w64 (n := (b.length : Int) - (a : Int)) (by omega) (by omega), dec_true (by omega)]
  rfl

theorem i_GetRec_eq (s : ByteArray) (hs : s.size ≤ 1048576) : P_i_GetRec s = some (getRec s) := by
  have hbl := bytesOf_length s
  have hb := byt_bytesOf s
  have hh : (bytesOf s).length ≤ 1048576 := by omega
  have hsz : s.size = (bytesOf s).length := hbl.symm
  simp only [getRec, recGood, hsz]
  have hlen : decide ((bytesOf s).length ≤ 9223372036854775807) = true := dec_true (by omega)
  simp only [P_i_GetRec, B_i_GetRec, hsz, hlen, cond_true]
  clear hlen hsz
  generalize bytesOf s = b at hb hh ⊢
  clear hbl
  have nb : ∀ (a : Int) (k : Nat) (k' : Int), k' = (k : Int) → 1 ≤ k ∧ k ≤ 7 → P_i_byteReader_number (b, a, true) k' = some (0, (b, a, true), ()) := fun a k k' e hk => num_bad hb hh a k k' e hk
  have nb1 : ∀ a : Int, P_i_byteReader_number (b, a, true) 1 = some (0, (b, a, true), ()) := fun a => nb a 1 1 rfl (by omega)
  have nb2 : ∀ a : Int, P_i_byteReader_number (b, a, true) 2 = some (0, (b, a, true), ()) := fun a => nb a 2 2 rfl (by omega)
  have nb4 : ∀ a : Int, P_i_byteReader_number (b, a, true) 4 = some (0, (b, a, true), ()) := fun a => nb a 4 4 rfl (by omega)
  have tb := take_bad b
  have z0 : ((0 : Int), false) = (((0 : Nat) : Int), false) := rfl
  rw [z0]
  by_cases c4 : 12 + idLen b + datLen b ≤ b.length
  · have hn' : idLen b < 256 := big1_lt hb _
    have hm' : datLen b < 256 := big1_lt hb _
    have hN : (bigN b 6 1 : Int) = ((idLen b : Nat) : Int) := rfl
    have hM : (bigN b (11 + idLen b) 1 : Int) = ((datLen b : Nat) : Int) := rfl
    rw [num_good hb hh 0 3 3 rfl (by omega) (by omega)]
    simp only [bindO]
    rw [num_good hb hh (0 + 3) 2 2 rfl (by omega) (by omega)]
    simp only
    rw [num_good hb hh (0 + 3 + 2) 1 1 rfl (by omega) (by omega)]
    simp only
    rw [num_good hb hh (0 + 3 + 2 + 1) 1 1 rfl (by omega) (by omega)]
    simp only [Nat.zero_add, Nat.reduceAdd, hN]
    rw [take_good hh 7 (idLen b) (by omega)]
    simp only
    rw [num_good hb hh (7 + idLen b) 4 4 rfl (by omega) (by omega)]
    simp only
    rw [num_good hb hh (7 + idLen b + 4) 1 1 rfl (by omega) (by omega)]
    simp only
    rw [show 7 + idLen b + 4 = 11 + idLen b by omega, hM, show 11 + idLen b + 1 = 12 + idLen b by omega, take_good hh (12 + idLen b) (datLen b) (by omega)]
    simp only [cond_false]
    have hr : (((bigN b 0 3 : Nat) : Int), ((bigN b 3 2 : Nat) : Int), ((bigN b 5 1 : Nat) : Int), strOf ((b.take (7 + idLen b)).drop 7), ((bigN b (7 + idLen b) 4 : Nat) : Int), (b.take (12 + idLen b + datLen b)).drop (12 + idLen b)) = recAt b := rfl
    obtain ⟨l1, l2⟩ := recAt_len b c4
    rw [hr, i_RecOk_eq _ (by rw [l1]; simp only [maxLen]; omega), i_PutRec_eq _ (by rw [l1]; simp only [maxLen]; omega) (recAt_byt hb)]
    rw [dec_true c4]
    simp only [Bool.true_and]
    cases recOkB (recAt b)
    · rfl
    · cases hp : ((putRec (recAt b)).toList == s.toList)
      · simp [hp]; rfl
      · simp [hp]
  · rw [dec_false c4]
    have fin : (if (false && recOkB (recAt b) && ((putRec (recAt b)).toList == s.toList)) = true then (recAt b, true, ()) else noRec) = noRec := by simp
    rw [fin]
    rcases Nat.lt_or_ge b.length (0 + 3) with d3 | d3
    · rw [num_short hb hh 0 3 3 rfl (by omega) (by omega)]
      simp only [bindO, nb1, nb2, nb4, tb]
      rfl
    rw [num_good hb hh 0 3 3 rfl (by omega) d3]
    simp only [bindO]
    rcases Nat.lt_or_ge b.length (0 + 3 + 2) with d5 | d5
    · rw [num_short hb hh (0 + 3) 2 2 rfl (by omega) (by omega)]
      simp only [nb1, nb2, nb4, tb]
      rfl
    rw [num_good hb hh (0 + 3) 2 2 rfl (by omega) d5]
    simp only
    rcases Nat.lt_or_ge b.length (0 + 3 + 2 + 1) with d6 | d6
    · rw [num_short hb hh (0 + 3 + 2) 1 1 rfl (by omega) (by omega)]
      simp only [nb1, nb2, nb4, tb]
      rfl
    rw [num_good hb hh (0 + 3 + 2) 1 1 rfl (by omega) d6]
    simp only
    rcases Nat.lt_or_ge b.length (0 + 3 + 2 + 1 + 1) with d7 | d7
    · rw [num_short hb hh (0 + 3 + 2 + 1) 1 1 rfl (by omega) (by omega)]
      simp only [nb1, nb2, nb4, tb]
      rfl
    rw [num_good hb hh (0 + 3 + 2 + 1) 1 1 rfl (by omega) d7]
    have hN : (bigN b 6 1 : Int) = ((idLen b : Nat) : Int) := rfl
    have hM : (bigN b (11 + idLen b) 1 : Int) = ((datLen b : Nat) : Int) := rfl
    simp only [Nat.zero_add, Nat.reduceAdd, hN]
    rcases Nat.lt_or_ge b.length (7 + idLen b) with e7 | e7
    · rw [take_short hh 7 (idLen b) (by omega) (by omega)]
      simp only [nb1, nb2, nb4, tb]
      rfl
    rw [take_good hh 7 (idLen b) e7]
    simp only
    rcases Nat.lt_or_ge b.length (7 + idLen b + 4) with e11 | e11
    · rw [num_short hb hh (7 + idLen b) 4 4 rfl (by omega) (by omega)]
      simp only [nb1, nb2, nb4, tb]
      rfl
    rw [num_good hb hh (7 + idLen b) 4 4 rfl (by omega) e11]
    simp only
    rcases Nat.lt_or_ge b.length (7 + idLen b + 4 + 1) with e12 | e12
    · rw [num_short hb hh (7 + idLen b + 4) 1 1 rfl (by omega) (by omega)]
      simp only [nb1, nb2, nb4, tb]
      rfl
    rw [num_good hb hh (7 + idLen b + 4) 1 1 rfl (by omega) e12]
    simp only
    rw [show 7 + idLen b + 4 = 11 + idLen b by omega, hM, show 11 + idLen b + 1 = 12 + idLen b by omega, take_short hh (12 + idLen b) (datLen b) (by omega) c4]
    rfl
end Go.Proofs.YtmdbndbfhgdhfaaGreat.Ev
