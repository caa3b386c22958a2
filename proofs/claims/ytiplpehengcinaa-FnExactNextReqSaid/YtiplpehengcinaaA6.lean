/- NextReq of the program and of the reference. -/
import Derived.Test.YtiplpehengcinaaA5
set_option linter.unusedVariables false
set_option linter.unusedSimpArgs false
namespace Go.Proofs.Ytiplpehengcinaa.Ev

abbrev Req := Int × ByteArray × Int

def noReq : Req × List Int × Bool × Unit := ((0, ⟨#[]⟩, 0), [], false, ())
def nextReq (c : Client) : Req × List Int × Bool × Unit :=
  if clientOkB c = false then noReq
  else if c.2.2.1 = 1 then ((1, c.1, (c.2.1.length : Int)), [], true, ())
  else if c.2.2.1 = 2 then ((2, c.1, 0), [], true, ())
  else if c.2.2.1 = 3 then ((3, c.1, c.2.2.2), (c.2.1.take (min (c.2.2.2.toNat + 24) c.2.1.length)).drop c.2.2.2.toNat, true, ())
  else if c.2.2.1 = 4 then ((4, c.1, ((crcL c.2.1 ^^^ 4294967295 : Nat) : Int)), [], true, ())
  else noReq

theorem ok_off {c : Client} (h : clientOkB c = true) : c.2.1.length ≤ 400 ∧ 1 ≤ c.2.2.1 ∧ c.2.2.1 ≤ 6 ∧ 0 ≤ c.2.2.2 ∧ c.2.2.2 ≤ (c.2.1.length : Int) := by
  simp only [clientOkB, Bool.and_eq_true, decide_eq_true_eq] at h
  omega

theorem s_NextReq_eq (c : Client) (h : c.1.size ≤ maxLen) (hb : Byt c.2.1) : P_s_NextReq c = some (nextReq c) := by
  simp only [P_s_NextReq, B_s_NextReq, s_ClientOk_eq c h, bindO, nextReq]
  cases hk : clientOkB c with
  | false => rfl
  | true =>
    obtain ⟨h1, h2, h3, h4, h5⟩ := ok_off hk
    simp only [Bool.not_true, cond_false, Bool.true_eq_false, if_false]
    by_cases e1 : c.2.2.1 = 1
    · rw [dec_true e1, if_pos e1]; rfl
    rw [dec_false e1, if_neg e1]
    by_cases e2 : c.2.2.1 = 2
    · rw [dec_true e2, if_pos e2]; rfl
    rw [dec_false e2, if_neg e2]
    by_cases e3 : c.2.2.1 = 3
    · rw [dec_true e3, if_pos e3, w64 (by omega) (by omega)]
      simp only [cond_true, cond_false]
      have hm : (bif decide (c.2.2.2 + 24 > (c.2.1.length : Int)) then some ((c.2.1.length : Int), ()) else some (c.2.2.2 + 24, ())) = some (((min (c.2.2.2.toNat + 24) c.2.1.length : Nat) : Int), ()) := by
        by_cases hc : c.2.2.2 + 24 > (c.2.1.length : Int)
        · rw [dec_true hc]; simp only [cond_true]; congr 2; omega
        · rw [dec_false hc]; simp only [cond_false]; congr 2; omega
      rw [hm]
      simp only
      rw [dec_true h4, dec_true (by omega), dec_true (by omega), Int.toNat_natCast]
      simp only [cond_true]
      rw [dec_true (by simp; omega), dec_true (by simp; omega)]
      simp
    rw [dec_false e3, if_neg e3]
    by_cases e4 : c.2.2.1 = 4
    · rw [dec_true e4, if_pos e4]
      simp only [cond_true, cond_false]
      rw [s_Crc_eq _ hb (by simp only [maxLen]; omega)]
    · rw [dec_false e4, if_neg e4]; rfl

theorem i_NextReq_eq (c : Client) (h : c.1.size ≤ maxLen) (hb : Byt c.2.1) : P_i_NextReq c = some (nextReq c) := by
  simp only [P_i_NextReq, B_i_NextReq, i_ClientOk_eq c h, isOver_eq, bindO, nextReq]
  cases hk : clientOkB c with
  | false => rfl
  | true =>
    obtain ⟨h1, h2, h3, h4, h5⟩ := ok_off hk
    simp only [Bool.not_true, cond_false, Bool.true_eq_false, if_false]
    cases ho : overB c with
    | true =>
      simp only [overB, Bool.or_eq_true, decide_eq_true_eq] at ho
      rw [if_neg (by omega), if_neg (by omega), if_neg (by omega), if_neg (by omega)]
      rfl
    | false =>
      simp only [overB, Bool.or_eq_false_iff, decide_eq_false_iff_not] at ho
      simp only [cond_false, bindS]
      by_cases e1 : c.2.2.1 = 1
      · rw [dec_true e1, if_pos e1]; rfl
      rw [dec_false e1, if_neg e1]
      by_cases e2 : c.2.2.1 = 2
      · rw [dec_true e2, if_pos e2]; rfl
      rw [dec_false e2, if_neg e2]
      by_cases e3 : c.2.2.1 = 3
      · rw [dec_true e3, if_pos e3, w64 (by omega) (by omega)]
        simp only [cond_true, cond_false]
        have hm : (bif decide ((c.2.1.length : Int) < c.2.2.2 + 24) then (c.2.1.length : Int) else c.2.2.2 + 24) = ((min (c.2.2.2.toNat + 24) c.2.1.length : Nat) : Int) := by
          by_cases hc : (c.2.1.length : Int) < c.2.2.2 + 24
          · rw [dec_true hc]; simp only [cond_true]; omega
          · rw [dec_false hc]; simp only [cond_false]; omega
        rw [hm, dec_true h4, dec_true (by omega), dec_true (by omega), Int.toNat_natCast]
        simp only [cond_true]
        rw [clone_byte_eq _ (by simp; omega)]
      rw [dec_false e3, if_neg e3]
      have e4 : c.2.2.1 = 4 := by omega
      rw [if_pos e4]
      simp only [cond_false]
      rw [i_Crc_eq _ hb (by simp only [maxLen]; omega)]

theorem nextReq_len (c : Client) : (nextReq c).2.1.length ≤ c.2.1.length := by
  unfold nextReq noReq
  repeat' split
  all_goals simp
  omega

theorem eqReq_refl (r : Req) : P_w_eqReq r r = some (true, ()) := by
  simp [P_w_eqReq, B_w_eqReq]
end Go.Proofs.Ytiplpehengcinaa.Ev
