/- ClientNew of the program and of the reference, and the law FnExactClientNew. -/
import Derived.Test.YtlgbhpphfimdbaaA3
set_option linter.unusedVariables false
set_option linter.unusedSimpArgs false
namespace Go.Proofs.Ytlgbhpphfimdbaa.Ev
def clientNew (id : ByteArray) (f : List Int) : Client := if clientOkB (id, f, 1, 0) then (id, f, 1, 0) else (⟨#[]⟩, [], 0, 0)

theorem s_ClientNew_eq (id : ByteArray) (f : List Int) (h : id.size ≤ maxLen) (h2 : f.length ≤ 140737488355328) : P_s_ClientNew id f = some (clientNew id f, ()) := by
  simp only [P_s_ClientNew, B_s_ClientNew]
  rw [dec_true (by simp; omega), dec_true (by simp; omega)]
  simp only [cond_true, List.nil_append]
  rw [s_ClientOk_eq _ h]
  simp only [bindO, clientNew]
  cases clientOkB (id, f, 1, 0) <;> simp
theorem i_ClientNew_eq (id : ByteArray) (f : List Int) (h : id.size ≤ maxLen) (h2 : f.length ≤ 140737488355328) : P_i_ClientNew id f = some (clientNew id f, ()) := by
  simp only [P_i_ClientNew, B_i_ClientNew]
  rw [clone_byte_eq _ h2]
  simp only [bindO]
  rw [i_ClientOk_eq _ h]
  simp only [bindO, clientNew]
  cases clientOkB (id, f, 1, 0) <;> simp

theorem clientNew_len (id : ByteArray) (f : List Int) : (clientNew id f).2.1.length ≤ f.length := by
  unfold clientNew
  split <;> simp

theorem exactClientNew (id : ByteArray) (f : List Int) (h : id.size ≤ maxLen) (h2 : f.length ≤ maxLen) : P_w_FnExactClientNew id f = some (true, ()) := by
  simp only [P_w_FnExactClientNew, B_w_FnExactClientNew]
  by_cases h3 : (id.size : Int) > 1048576
  · rw [dec_true h3]; rfl
  rw [dec_false h3]
  by_cases h4 : (f.length : Int) > 1048576
  · rw [dec_true h4]; rfl
  rw [dec_false h4]
  have hl := clientNew_len id f
  simp only [cond_false, toByteS_eq f (by omega), bindO, s_ClientNew_eq id f h (by omega), i_ClientNew_eq id f h (by omega), pe]
  rw [eqClient_refl _ (by simp only [maxLen]; omega), eqByteS_refl _ h2, markByteS_eq _ _ (by omega) (by omega)]
  simp only [Bool.not_true, cond_false]
  rw [dec_false (show ¬ (1 + (f.length : Int) < 0) by omega)]
  simp only [cond_false, bindS]
  rw [markClient_eq _ _ (by omega) (by omega)]
  simp only
  rw [heldClient_eq' _ _ (by omega) (by omega)]
  simp only
  rw [dec_false (show ¬ (1 + ((clientNew id f).2.1.length : Int) < 0) by omega)]
  simp

end Go.Proofs.Ytlgbhpphfimdbaa.Ev
