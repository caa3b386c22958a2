/- NextReq of the program. -/
import Derived.Test.YtiplpehengcinaaA6
import Derived.Test.YtiplpehengcinaaA5i
set_option linter.unusedVariables false
set_option linter.unusedSimpArgs false
namespace Go.Proofs.Ytiplpehengcinaa.Ev
theorem i_NextReq_eq (c : Client) (h : c.1.size ≤ maxLen) (hb : Byt c.2.1) : P_i_NextReq c = some (nextReq c) := by
  simp only [P_i_NextReq, B_i_NextReq, i_ClientOk_eq c h, isOver_eq, bindO, nextReq]
  cases hk : clientOkB c with
  | false => rfl
  | true =>
    obtain ⟨h1, h2, h3, h4, h5⟩ := ok_off hk
    simp only [Bool.not_true, cond_false, Bool.true_eq_false, if_false]
    cases ho : overB c with
    | true =>
      simp only [overB, Bool.or_eq_true, decide_eq_true_eq] at ho
      rw [if_neg (by omega), if_neg (by omega), if_neg (by omega), if_neg (by omega)]
      rfl
    | false =>
      simp only [overB, Bool.or_eq_false_iff, decide_eq_false_iff_not] at ho
      simp only [cond_false, bindS]
      by_cases e1 : c.2.2.1 = 1
      · rw [dec_true e1, if_pos e1]; rfl
      rw [dec_false e1, if_neg e1]
      by_cases e2 : c.2.2.1 = 2
      · rw [dec_true e2, if_pos e2]; rfl
      rw [dec_false e2, if_neg e2]
      by_cases e3 : c.2.2.1 = 3
      · rw [dec_true e3, if_pos e3, w64 (by omega) (by omega)]
        simp only [cond_true, cond_false]
        have hm : (bif decide ((c.2.1.length : Int) < c.2.2.2 + 24) then (c.2.1.length : Int) else c.2.2.2 + 24) = ((min (c.2.2.2.toNat + 24) c.2.1.length : Nat) : Int) := by
          by_cases hc : (c.2.1.length : Int) < c.2.2.2 + 24
          · rw [dec_true hc]; simp only [cond_true]; omega
          · rw [dec_false hc]; simp only [cond_false]; omega
        rw [hm, dec_true h4, dec_true (by omega), dec_true (by omega), Int.toNat_natCast]
        simp only [cond_true]
        rw [clone_byte_eq _ (by simp; omega)]
      rw [dec_false e3, if_neg e3]
      have e4 : c.2.2.1 = 4 := by omega
      rw [if_pos e4]
      simp only [cond_false]
      rw [i_Crc_eq _ hb (by simp only [maxLen]; omega)]

end Go.Proofs.Ytiplpehengcinaa.Ev
