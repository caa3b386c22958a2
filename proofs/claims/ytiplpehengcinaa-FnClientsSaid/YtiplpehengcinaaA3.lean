/- Copies of bytes and of clients; whether a client is over. -/
import Derived.Test.YtiplpehengcinaaA2
set_option linter.unusedVariables false
set_option linter.unusedSimpArgs false
namespace Go.Proofs.Ytiplpehengcinaa.Ev

theorem eqO_self {R : Type} (a : Option R) : eqO a a = a := by
  unfold eqO
  rw [if_pos rfl]

theorem clone_byte_eq (a : List Int) (h : a.length ≤ 140737488355328) : P_slices_Clone_byte_byte a = some (a, ()) := by
  simp only [P_slices_Clone_byte_byte, B_slices_Clone_byte_byte]
  have e : (bif decide (([] : List Int).length + a.length ≤ 9223372036854775807) then bif decide ((([] : List Int).length + a.length) * 1 ≤ 140737488355328) then some (([] ++ a), ()) else none else none) = some (a, ()) := by
    rw [dec_true (by simp; omega), dec_true (by simp; omega)]
    simp
  rw [e]
  cases a with
  | nil => simp [eqO_self]
  | cons x xs => simp

theorem heldClient_eq' (c : Client) (m : Int) (h0 : 0 ≤ m) (h : m + c.2.1.length < 9223372036854775808) : P_w_heldClient (c.1, (markedC m c).2.1, c.2.2) m = some (m + c.2.1.length, ()) := heldClient_eq c m h0 h

def overB (c : Client) : Bool := decide (c.2.2.1 = 5) || decide (c.2.2.1 = 6)
theorem l17Over_eq (c : Client) : P_s_l17Over c = some (overB c, ()) := by
  simp only [P_s_l17Over, B_s_l17Over, overB]
  cases decide (c.2.2.1 = 5) <;> simp
theorem isOver_eq (c : Client) : P_i_Client_isOver c = some (overB c, c, ()) := by
  simp only [P_i_Client_isOver, B_i_Client_isOver, overB]
  cases decide (c.2.2.1 = 5) <;> simp
theorem l17Copy_eq (c : Client) (h2 : c.2.1.length ≤ 140737488355328) : P_s_l17Copy c = some (c, ()) := by
  simp only [P_s_l17Copy, B_s_l17Copy]
  rw [dec_true (by simp; omega), dec_true (by simp; omega)]
  simp
theorem copyClient_eq (c : Client) (h2 : c.2.1.length ≤ 140737488355328) : P_i_copyClient c = some (c, ()) := by
  simp only [P_i_copyClient, B_i_copyClient, clone_byte_eq _ h2, bindO]

end Go.Proofs.Ytiplpehengcinaa.Ev
