/- A new client begins with making its upload: the law FnNew. -/
import Derived.Test.YtlgbhpphfimdbaaXClientNew
import Derived.Test.YtlgbhpphfimdbaaA6i
import Derived.Test.YtlgbhpphfimdbaaA13
set_option linter.unusedVariables false
set_option linter.unusedSimpArgs false
namespace Go.Proofs.Ytlgbhpphfimdbaa.Ev

theorem drawClientNew_ok (a : List Int) (h : a.length ≤ 1048576) : ∃ id f, P_s_DrawClientNew_r99_0 a = some (id, f, ()) ∧ id.size ≤ 1048576 ∧ f.length ≤ 1048576 ∧ Byt f := by
  obtain ⟨c, e, hc⟩ := l1New_ok a h
  obtain ⟨id, c1, e1, hc1, hid⟩ := l1Str_ok c [(⟨#[97]⟩ : ByteArray), (⟨#[117, 112, 49]⟩ : ByteArray), (⟨#[]⟩ : ByteArray), (⟨#[65]⟩ : ByteArray), (⟨#[101, 105, 103, 104, 116, 108, 101, 116]⟩ : ByteArray)] hc (by simp)
  obtain ⟨n, c2, e2, hc2, hn⟩ := l1Int_ok c1 [0, 5, 400, 401] hc1 (by simp)
  have hn : 0 ≤ n ∧ n ≤ 401 := by simp at hn; omega
  obtain ⟨f, c3, e3, hc3, hl, hb⟩ := l1Bytes_ok c2 n hc2 (by omega)
  refine ⟨id, f, ?_, ?_, by omega, hb⟩
  · simp only [P_s_DrawClientNew_r99_0, B_s_DrawClientNew_r99_0, e, e1, e2, e3, bindO]
  · simp only [List.mem_cons, List.not_mem_nil, or_false] at hid
    rcases hid with rfl | rfl | rfl | rfl | rfl <;> decide

theorem fnNew (a : List Int) (h : a.length ≤ maxLen) : P_w_FnNew a = some (true, ()) := by
  simp only [P_w_FnNew, B_w_FnNew, P_w_big, B_w_big, bindO]
  by_cases h3 : (a.length : Int) > 1048576
  · rw [dec_true h3]; rfl
  rw [dec_false h3]
  obtain ⟨id, f, e, h1, h2, hb⟩ := drawClientNew_ok a (by omega)
  have hid : id.size ≤ maxLen := by simp only [maxLen]; omega
  have hb' : Byt (clientNew id f).2.1 := by
    unfold clientNew
    split
    · exact hb
    · intro x hx; cases hx
  have hs' : (clientNew id f).1.size ≤ maxLen := by
    unfold clientNew
    split
    · exact hid
    · exact Nat.zero_le _
  simp only [cond_false, e, i_ClientNew_eq id f hid (by omega), s_ClientNew_eq id f hid (by omega), i_NextReq_eq _ hs' hb', i_ClientOk_eq _ hs']
  unfold clientNew
  cases hk : clientOkB (id, f, 1, 0) with
  | true => simp [nextReq, hk]
  | false =>
    have : clientOkB (⟨#[]⟩, [], 0, 0) = false := by decide
    simp [nextReq, noReq, this]
end Go.Proofs.Ytlgbhpphfimdbaa.Ev
