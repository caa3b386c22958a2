/- Draws: a cursor over bytes draws bytes, numbers below a bound, one of a list, and rows of bytes. -/
import Derived.Test.YtiplpehengcinaaLp
import Derived.Test.YtiplpehengcinaaA5
set_option linter.unusedVariables false
set_option linter.unusedSimpArgs false
namespace Go.Proofs.Ytiplpehengcinaa.Ev

theorem bAnd_255 (x : Int) : 0 ≤ bAnd .i64 x 255 ∧ bAnd .i64 x 255 ≤ 255 := by
  unfold bAnd
  have h : (BitVec.ofInt IntKind.i64.bits x &&& BitVec.ofInt IntKind.i64.bits 255).toNat ≤ 255 := by
    rw [BitVec.toNat_and]
    have : (BitVec.ofInt IntKind.i64.bits (255 : Int)).toNat = 255 := bits_nat (w := 64) (x := 255) (by omega)
    rw [this]
    exact Nat.and_le_right
  rw [wI64 (by omega)]
  omega

/-- A cursor that draws. -/
def Cur (c : TL1Cur) : Prop := List.length c.1 ≤ 1048576 ∧ 0 ≤ c.2.1 ∧ c.2.1 ≤ 1048576

theorem l1Byte_ok (c : TL1Cur) (h : Cur c) : ∃ r c', P_s_l1Byte c = some (r, c', ()) ∧ Cur c' ∧ 0 ≤ r ∧ r ≤ 255 := by
  obtain ⟨h1, h2, h3⟩ := h
  simp only [P_s_l1Byte, B_s_l1Byte]
  by_cases hi : c.2.1 < (List.length c.1 : Int)
  · simp only [dec_true hi, dec_true h2, cond_true]
    refine ⟨_, _, rfl, ⟨h1, ?_, ?_⟩, bAnd_255 _⟩
    · simp only; rw [w64 (by omega) (by omega)]; omega
    · simp only; rw [w64 (by omega) (by omega)]; omega
  · simp only [dec_false hi, cond_false]
    exact ⟨_, _, rfl, ⟨h1, h2, h3⟩, bAnd_255 _⟩

theorem l1Below_ok (c : TL1Cur) (n : Int) (h : Cur c) (hn : 0 < n ∧ n < 9223372036854775808) : ∃ r c', P_s_l1Below c n = some (r, c', ()) ∧ Cur c' ∧ 0 ≤ r ∧ r < n := by
  simp only [P_s_l1Below, B_s_l1Below]
  rw [dec_false (show ¬ n ≤ 0 by omega)]
  have hz : (n == 0) = false := by simp; omega
  simp only [cond_false, hz]
  by_cases h1 : n ≤ 256
  · rw [dec_true h1]
    obtain ⟨r, c', e, hc, hr⟩ := l1Byte_ok c h
    simp only [cond_true, e, bindO]
    refine ⟨_, _, rfl, hc, ?_⟩
    rw [Int.tmod_eq_emod_of_nonneg hr.1]
    exact ⟨Int.emod_nonneg _ (by omega), Int.emod_lt_of_pos _ (by omega)⟩
  · rw [dec_false h1]
    obtain ⟨r1, c1, e1, hc1, hr1⟩ := l1Byte_ok c h
    obtain ⟨r2, c2, e2, hc2, hr2⟩ := l1Byte_ok c1 hc1
    obtain ⟨r3, c3, e3, hc3, hr3⟩ := l1Byte_ok c2 hc2
    simp only [cond_false, e1, e2, e3, bindO]
    refine ⟨_, _, rfl, hc3, ?_⟩
    rw [w64 (n := r1 * 65536) (by omega) (by omega), w64 (n := r2 * 256) (by omega) (by omega), w64 (n := r1 * 65536 + r2 * 256) (by omega) (by omega), w64 (n := r1 * 65536 + r2 * 256 + r3) (by omega) (by omega)]
    rw [Int.tmod_eq_emod_of_nonneg (by omega)]
    exact ⟨Int.emod_nonneg _ (by omega), Int.emod_lt_of_pos _ (by omega)⟩

theorem l1Str_ok (c : TL1Cur) (xs : List ByteArray) (h : Cur c) (hx : 0 < xs.length ∧ xs.length ≤ 1048576) : ∃ s c', P_s_l1Str c xs = some (s, c', ()) ∧ Cur c' ∧ s ∈ xs := by
  obtain ⟨r, c', e, hc, h0, h1⟩ := l1Below_ok c (xs.length : Int) h (by omega)
  simp only [P_s_l1Str, B_s_l1Str, e, bindO, dec_true h0, dec_true h1, cond_true]
  refine ⟨_, _, rfl, hc, ?_⟩
  obtain ⟨n, rfl⟩ : ∃ n : Nat, r = (n : Int) := ⟨r.toNat, by omega⟩
  rw [rd_str (by omega)]
  exact List.getElem_mem _
theorem l1Int_ok (c : TL1Cur) (xs : List Int) (h : Cur c) (hx : 0 < xs.length ∧ xs.length ≤ 1048576) : ∃ s c', P_s_l1Int c xs = some (s, c', ()) ∧ Cur c' ∧ s ∈ xs := by
  obtain ⟨r, c', e, hc, h0, h1⟩ := l1Below_ok c (xs.length : Int) h (by omega)
  simp only [P_s_l1Int, B_s_l1Int, e, bindO, dec_true h0, dec_true h1, cond_true]
  refine ⟨_, _, rfl, hc, ?_⟩
  obtain ⟨n, rfl⟩ : ∃ n : Nat, r = (n : Int) := ⟨r.toNat, by omega⟩
  rw [rd_int (by omega)]
  exact List.getElem_mem _

theorem wrap_u8 (x : Int) : 0 ≤ IntKind.u8.wrap x ∧ IntKind.u8.wrap x < 256 := by
  simp only [IntKind.wrap, IntKind.bits, IntKind.signed]
  simp
  omega

theorem l1Bytes_ok (c : TL1Cur) (n : Int) (h : Cur c) (hn : 0 ≤ n ∧ n ≤ 1048576) : ∃ b c', P_s_l1Bytes_r0_0 c n = some (b, c', ()) ∧ Cur c' ∧ (List.length b : Int) = n ∧ Byt b := by
  simp only [P_s_l1Bytes_r0_0, B_s_l1Bytes_r0_0]
  obtain ⟨z, e, hz⟩ := loopO_ind (L_s_l1Bytes_r0_0_0 P_s_l1Byte n) (fun l => (n - l.1).toNat) (fun l => 0 ≤ l.1 ∧ l.1 ≤ n ∧ Cur (l.2.1, l.2.2.1, l.2.2.2.1) ∧ (List.length l.2.2.2.2.1 : Int) = l.1 ∧ Byt l.2.2.2.2.1)
    (fun z => Cur z.2.1 ∧ (List.length z.1 : Int) = n ∧ Byt z.1) (fun l hl => by
      obtain ⟨h0, h1, hc, hlen, hb⟩ := hl
      simp only [L_s_l1Bytes_r0_0_0]
      by_cases hi : l.1 < n
      · obtain ⟨r, c', e, hc', hr⟩ := l1Byte_ok _ hc
        refine .inl ⟨(l.1 + 1, c'.1, c'.2.1, c'.2.2, l.2.2.2.2.1 ++ [IntKind.u8.wrap r], ()), ?_, ⟨by simp only; omega, by simp only; omega, hc', by simp; omega, ?_⟩, by simp only; omega⟩
        · rw [dec_true hi, e]
          simp only [cond_true, bindO]
          rw [dec_true (by simp; omega), dec_true (by simp; omega), w64 (by omega) (by omega)]
          rfl
        · intro x hx
          rcases List.mem_append.1 hx with hx | hx
          · exact hb x hx
          · rw [List.mem_singleton.1 hx]; exact wrap_u8 _
      · rw [dec_false hi]
        exact .inr ⟨_, rfl, hc, by simp only; omega, hb⟩) (0, c.1, c.2.1, c.2.2, [], ()) ⟨by simp, hn.1, h, by simp, fun x hx => by cases hx⟩
  exact ⟨z.1, z.2.1, e, hz⟩

theorem l1New_ok (a : List Int) (h : a.length ≤ 1048576) : ∃ c, P_s_l1New a = some (c, ()) ∧ Cur c := by
  simp only [P_s_l1New, B_s_l1New]
  obtain ⟨z, e, _⟩ := loopO_ind (L_s_l1New_0 a) (fun l => ((a.length : Int) - l.2.1).toNat) (fun l => 0 ≤ l.2.1) (fun _ => True) (fun l hl => by
    simp only [L_s_l1New_0]
    by_cases hi : l.2.1 < (a.length : Int)
    · by_cases h4 : l.2.1 < 4000
      · rw [dec_true hi, dec_true h4]
        simp only [cond_true, bindS]
        rw [dec_true hl, w64 (n := l.2.1 + 1) (by omega) (by omega)]
        exact .inl ⟨_, rfl, by simp only; omega, by simp only; omega⟩
      · rw [dec_true hi, dec_false h4]
        exact .inr ⟨_, rfl, trivial⟩
    · rw [dec_false hi]
      exact .inr ⟨_, rfl, trivial⟩) (IntKind.i64.wrap (369369 + (a.length : Int)), 0, ()) (by simp)
  rw [e]
  exact ⟨_, rfl, h, by simp, by simp⟩
end Go.Proofs.Ytiplpehengcinaa.Ev
