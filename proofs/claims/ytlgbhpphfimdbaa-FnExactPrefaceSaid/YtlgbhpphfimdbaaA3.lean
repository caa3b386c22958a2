/- ClientNew and CutOff of the program and of the reference answer the same. -/
import Derived.Test.YtlgbhpphfimdbaaA2
set_option linter.unusedVariables false
set_option linter.unusedSimpArgs false
namespace Go.Proofs.Ytlgbhpphfimdbaa.Ev

theorem eqO_self {R : Type} (a : Option R) : eqO a a = a := by
  unfold eqO
  rw [if_pos rfl]

theorem clone_byte_eq (a : List Int) (h : a.length ≤ 140737488355328) : P_slices_Clone_byte_byte a = some (a, ()) := by
  simp only [P_slices_Clone_byte_byte, B_slices_Clone_byte_byte]
  have e : (bif decide (([] : List Int).length + a.length ≤ 9223372036854775807) then bif decide ((([] : List Int).length + a.length) * 1 ≤ 140737488355328) then some (([] ++ a), ()) else none else none) = some (a, ()) := by
    rw [dec_true (by simp; omega), dec_true (by simp; omega)]
    simp
  rw [e]
  cases a with
  | nil => simp [eqO_self]
  | cons x xs => simp

def clientNew (id : ByteArray) (f : List Int) : Client := if clientOkB (id, f, 1, 0) then (id, f, 1, 0) else (⟨#[]⟩, [], 0, 0)

theorem s_ClientNew_eq (id : ByteArray) (f : List Int) (h : id.size ≤ maxLen) (h2 : f.length ≤ 140737488355328) : P_s_ClientNew id f = some (clientNew id f, ()) := by
  simp only [P_s_ClientNew, B_s_ClientNew]
  rw [dec_true (by simp; omega), dec_true (by simp; omega)]
  simp only [cond_true, List.nil_append]
  rw [s_ClientOk_eq _ h]
  simp only [bindO, clientNew]
  cases clientOkB (id, f, 1, 0) <;> simp
theorem i_ClientNew_eq (id : ByteArray) (f : List Int) (h : id.size ≤ maxLen) (h2 : f.length ≤ 140737488355328) : P_i_ClientNew id f = some (clientNew id f, ()) := by
  simp only [P_i_ClientNew, B_i_ClientNew]
  rw [clone_byte_eq _ h2]
  simp only [bindO]
  rw [i_ClientOk_eq _ h]
  simp only [bindO, clientNew]
  cases clientOkB (id, f, 1, 0) <;> simp

theorem clientNew_len (id : ByteArray) (f : List Int) : (clientNew id f).2.1.length ≤ f.length := by
  unfold clientNew
  split <;> simp

theorem heldClient_eq' (c : Client) (m : Int) (h0 : 0 ≤ m) (h : m + c.2.1.length < 9223372036854775808) : P_w_heldClient (c.1, (markedC m c).2.1, c.2.2) m = some (m + c.2.1.length, ()) := heldClient_eq c m h0 h

theorem exactClientNew (id : ByteArray) (f : List Int) (h : id.size ≤ maxLen) (h2 : f.length ≤ maxLen) : P_w_FnExactClientNew id f = some (true, ()) := by
  simp only [P_w_FnExactClientNew, B_w_FnExactClientNew]
  by_cases h3 : (id.size : Int) > 1048576
  · rw [dec_true h3]; rfl
  rw [dec_false h3]
  by_cases h4 : (f.length : Int) > 1048576
  · rw [dec_true h4]; rfl
  rw [dec_false h4]
  have hl := clientNew_len id f
  simp only [cond_false, toByteS_eq f (by omega), bindO, s_ClientNew_eq id f h (by omega), i_ClientNew_eq id f h (by omega), pe]
  rw [eqClient_refl _ (by simp only [maxLen]; omega), eqByteS_refl _ h2, markByteS_eq _ _ (by omega) (by omega)]
  simp only [Bool.not_true, cond_false]
  rw [dec_false (show ¬ (1 + (f.length : Int) < 0) by omega)]
  simp only [cond_false, bindS]
  rw [markClient_eq _ _ (by omega) (by omega)]
  simp only
  rw [heldClient_eq' _ _ (by omega) (by omega)]
  simp only
  rw [dec_false (show ¬ (1 + ((clientNew id f).2.1.length : Int) < 0) by omega)]
  simp

def overB (c : Client) : Bool := decide (c.2.2.1 = 5) || decide (c.2.2.1 = 6)
theorem l17Over_eq (c : Client) : P_s_l17Over c = some (overB c, ()) := by
  simp only [P_s_l17Over, B_s_l17Over, overB]
  cases decide (c.2.2.1 = 5) <;> simp
theorem isOver_eq (c : Client) : P_i_Client_isOver c = some (overB c, c, ()) := by
  simp only [P_i_Client_isOver, B_i_Client_isOver, overB]
  cases decide (c.2.2.1 = 5) <;> simp
theorem l17Copy_eq (c : Client) (h2 : c.2.1.length ≤ 140737488355328) : P_s_l17Copy c = some (c, ()) := by
  simp only [P_s_l17Copy, B_s_l17Copy]
  rw [dec_true (by simp; omega), dec_true (by simp; omega)]
  simp
theorem copyClient_eq (c : Client) (h2 : c.2.1.length ≤ 140737488355328) : P_i_copyClient c = some (c, ()) := by
  simp only [P_i_copyClient, B_i_copyClient, clone_byte_eq _ h2, bindO]

def cutOff (c : Client) : Client := if clientOkB c && !overB c then (c.1, c.2.1, 2, c.2.2.2) else c
theorem s_CutOff_eq (c : Client) (h : c.1.size ≤ maxLen) (h2 : c.2.1.length ≤ 140737488355328) : P_s_CutOff c = some (cutOff c, ()) := by
  simp only [P_s_CutOff, B_s_CutOff, pe, l17Copy_eq _ h2, s_ClientOk_eq _ h, l17Over_eq, bindO, cutOff]
  cases clientOkB c <;> cases overB c <;> simp
theorem i_CutOff_eq (c : Client) (h : c.1.size ≤ maxLen) (h2 : c.2.1.length ≤ 140737488355328) : P_i_CutOff c = some (cutOff c, ()) := by
  simp only [P_i_CutOff, B_i_CutOff, pe, copyClient_eq _ h2, i_ClientOk_eq _ h, isOver_eq, bindO, cutOff]
  cases clientOkB c <;> cases overB c <;> simp
theorem cutOff_len (c : Client) : (cutOff c).2.1.length = c.2.1.length := by
  unfold cutOff
  split <;> rfl

theorem exactCutOff (c : Client) (h : c.1.size ≤ maxLen) (h2 : c.2.1.length ≤ maxLen) : P_w_FnExactCutOff c = some (true, ()) := by
  simp only [P_w_FnExactCutOff, B_w_FnExactCutOff, pe]
  rw [szClient_eq c h h2]
  simp only [bindO]
  by_cases hs : (c.1.size : Int) + c.2.1.length ≤ 1048576
  · rw [if_pos hs, dec_false (by omega)]
    have hl := cutOff_len c
    simp only [cond_false, toClient_eq c (by omega), s_CutOff_eq c h (by omega), i_CutOff_eq c h (by omega), pe]
    rw [eqClient_refl _ (by simp only [maxLen]; omega), eqClient_refl _ h2, markClient_eq _ _ (by omega) (by omega)]
    simp only [Bool.not_true, cond_false]
    rw [dec_false (show ¬ (1 + (c.2.1.length : Int) < 0) by omega)]
    simp only [cond_false, bindS]
    rw [markClient_eq _ _ (by omega) (by omega)]
    simp only
    rw [heldClient_eq' _ _ (by omega) (by omega)]
    simp only
    rw [dec_false (show ¬ (1 + ((cutOff c).2.1.length : Int) < 0) by omega)]
    simp
  · rw [if_neg hs]
    rfl
end Go.Proofs.Ytlgbhpphfimdbaa.Ev
