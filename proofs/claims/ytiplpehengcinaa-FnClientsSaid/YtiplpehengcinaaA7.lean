/- HearResp of the program and of the reference. -/
import Derived.Test.YtiplpehengcinaaA6
set_option linter.unusedVariables false
set_option linter.unusedSimpArgs false
namespace Go.Proofs.Ytiplpehengcinaa.Ev

abbrev Resp := Int × Int
def respOkB (r : Resp) : Bool := decide (100 ≤ r.1 ∧ r.1 ≤ 599) && decide (-1 ≤ r.2 ∧ r.2 ≤ 1000000000)
theorem s_RespOk_eq (r : Resp) : P_s_RespOk r = some (respOkB r, ()) := by
  simp only [P_s_RespOk, B_s_RespOk, l1In_eq, bindO, respOkB]
  cases decide (100 ≤ r.1 ∧ r.1 ≤ 599) <;> simp
theorem i_RespOk_eq (r : Resp) : P_i_RespOk r = some (respOkB r, ()) := by
  simp only [P_i_RespOk, B_i_RespOk, inRange_eq, bindO, respOkB]
  cases decide (100 ≤ r.1 ∧ r.1 ≤ 599) <;> simp

def far (c : Client) (off : Int) : Client := if 0 ≤ off ∧ off ≤ (c.2.1.length : Int) then (if off = (c.2.1.length : Int) then (c.1, c.2.1, 4, off) else (c.1, c.2.1, 3, off)) else (c.1, c.2.1, 6, c.2.2.2)
theorem l17Far_eq (c : Client) (off : Int) : P_s_l17Far c off = some (far c off, ()) := by
  simp only [P_s_l17Far, B_s_l17Far, l1In_eq, bindO, far]
  by_cases h : 0 ≤ off ∧ off ≤ (c.2.1.length : Int)
  · rw [dec_true h, if_pos h]
    by_cases h2 : off = (c.2.1.length : Int) <;> simp [h2]
  · rw [dec_false h, if_neg h]; rfl
theorem howFar_eq (c : Client) (off : Int) : P_i_Client_howFar c off = some (far c off, ()) := by
  simp only [P_i_Client_howFar, B_i_Client_howFar, inRange_eq, bindO, far]
  by_cases h : 0 ≤ off ∧ off ≤ (c.2.1.length : Int)
  · rw [dec_true h, if_pos h]
    by_cases h2 : off = (c.2.1.length : Int) <;> simp [h2]
  · rw [dec_false h, if_neg h]; rfl
theorem far_len (c : Client) (off : Int) : (far c off).2.1 = c.2.1 := by
  unfold far
  repeat' split
  all_goals rfl

def nextStep (step status : Int) : Int :=
  if status = 507 then (if step = 2 then 6 else step)
  else if status = 404 then (if step = 1 then 6 else 1)
  else if status = 409 then (if step = 3 then 0 else if step = 2 then 6 else 2)
  else if status = 201 then (if step = 1 then 0 else 6)
  else if status = 204 then (if step = 3 then 0 else 6)
  else if status = 200 then (if step = 2 then 0 else if step = 4 then 5 else 6)
  else 6
theorem l17Next_eq (a b : Int) : P_s_l17Next a b = some (nextStep a b, ()) := by
  simp only [P_s_l17Next, B_s_l17Next, nextStep]
  by_cases h1 : b = 507
  · by_cases h : a = 2 <;> simp [h1, h]
  by_cases h2 : b = 404
  · by_cases h : a = 1 <;> simp [h2, h]
  by_cases h3 : b = 409
  · by_cases h : a = 3
    · simp [h3, h]
    · by_cases h' : a = 2 <;> simp [h3, h, h']
  by_cases h4 : b = 201
  · by_cases h : a = 1 <;> simp [h4, h]
  by_cases h5 : b = 204
  · by_cases h : a = 3 <;> simp [h5, h]
  by_cases h6 : b = 200
  · by_cases h : a = 2
    · simp [h6, h]
    · by_cases h' : a = 4 <;> simp [h6, h, h']
  simp [h1, h2, h3, h4, h5, h6]

def hear (c : Client) (r : Resp) : Client := if nextStep c.2.2.1 r.1 = 0 then far c r.2 else (c.1, c.2.1, nextStep c.2.2.1 r.1, c.2.2.2)
theorem l17Hear_eq (c : Client) (r : Resp) : P_s_l17Hear c r = some (hear c r, ()) := by
  simp only [P_s_l17Hear, B_s_l17Hear, l17Next_eq, l17Far_eq, bindO, hear]
  by_cases h : nextStep c.2.2.1 r.1 = 0 <;> simp [h]
theorem i_hear_eq (c : Client) (r : Resp) (h : c.2.2.1 = 1 ∨ c.2.2.1 = 2 ∨ c.2.2.1 = 3 ∨ c.2.2.1 = 4) : P_i_Client_hear c r = some (hear c r, ()) := by
  have hc : c = (c.1, c.2.1, c.2.2.1, c.2.2.2) := rfl
  simp only [P_i_Client_hear, B_i_Client_hear, howFar_eq, hear, nextStep]
  by_cases h1 : r.1 = 507
  · rcases h with h | h | h | h <;> simp [h1, h, bindO]
    all_goals (rw [← h])
  by_cases h2 : r.1 = 404
  · rcases h with h | h | h | h <;> simp [h2, h, bindO]
  by_cases h3 : r.1 = 409
  · rcases h with h | h | h | h <;> simp [h3, h, bindO]
  by_cases h4 : r.1 = 201
  · rcases h with h | h | h | h <;> simp [h4, h, bindO]
  by_cases h5 : r.1 = 204
  · rcases h with h | h | h | h <;> simp [h5, h, bindO]
  by_cases h6 : r.1 = 200
  · rcases h with h | h | h | h <;> simp [h6, h, bindO]
  rcases h with h | h | h | h <;> simp [h1, h2, h3, h4, h5, h6, h, bindO]

def hearResp (c : Client) (r : Resp) : Client := if clientOkB c && respOkB r && !overB c then hear c r else c
theorem s_HearResp_eq (c : Client) (r : Resp) (h : c.1.size ≤ maxLen) (h2 : c.2.1.length ≤ 140737488355328) : P_s_HearResp c r = some (hearResp c r, ()) := by
  simp only [P_s_HearResp, B_s_HearResp, l17Copy_eq _ h2, s_ClientOk_eq _ h, s_RespOk_eq, l17Over_eq, l17Hear_eq, bindO, hearResp]
  cases clientOkB c <;> cases respOkB r <;> cases overB c <;> simp
theorem i_HearResp_eq (c : Client) (r : Resp) (h : c.1.size ≤ maxLen) (h2 : c.2.1.length ≤ 140737488355328) : P_i_HearResp c r = some (hearResp c r, ()) := by
  simp only [P_i_HearResp, B_i_HearResp, copyClient_eq _ h2, i_ClientOk_eq _ h, i_RespOk_eq, isOver_eq, bindO, hearResp]
  cases hk : clientOkB c with
  | false => simp
  | true =>
    cases respOkB r with
    | false => simp
    | true =>
      cases ho : overB c with
      | true => simp
      | false =>
        obtain ⟨_, h4, h5, _, _⟩ := ok_off hk
        simp only [overB, Bool.or_eq_false_iff, decide_eq_false_iff_not] at ho
        simp only [Bool.not_true, cond_false]
        rw [i_hear_eq c r (by omega)]
        simp
theorem hearResp_len (c : Client) (r : Resp) : (hearResp c r).2.1.length = c.2.1.length := by
  unfold hearResp hear
  split
  · split
    · rw [far_len]
    · rfl
  · rfl
end Go.Proofs.Ytiplpehengcinaa.Ev
