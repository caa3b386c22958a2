/- Crc of the program. -/
import Derived.Test.YtiplpehengcinaaA5
set_option linter.unusedVariables false
set_option linter.unusedSimpArgs false
namespace Go.Proofs.Ytiplpehengcinaa.Ev
theorem i_inner (l0 : Int × Int × Unit) (c : Nat) (h : c < 4294967296) : loopO (L_i_Crc_0 l0) ((c : Int), 0, ()) = some (.inl ((crcN c 8 : Int), IntKind.i64.wrap (l0.2.1 + 1), ())) := by
  refine loopO_count (L_i_Crc_0 l0) (fun i => ((crcN c i : Int), (i : Int), ())) 8 _ (fun i hi => ?_) ?_
  · have hl := crcN_lt h i
    have h1 : (i : Int) < 8 := by omega
    simp only [L_i_Crc_0, dec_true h1, cond_true, half]
    rw [show (1 : Int) = ((1 : Nat) : Int) from rfl, bAnd_u32 hl (by omega), show (2197175160 : Int) = ((2197175160 : Nat) : Int) from rfl, bXor_u32 (by omega) (by omega)]
    rw [show ((i : Int) + ((1 : Nat) : Int)) = ((i + 1 : Nat) : Int) by omega, wI64 (by omega)]
    simp only [crcN, crcStep]
    by_cases hb : crcN c i &&& 1 = 1
    · rw [dec_true (by rw [hb]), if_pos hb]; rfl
    · rw [dec_false (by omega), if_neg hb]; rfl
  · rfl

theorem i_Crc_eq (a : List Int) (ha : Byt a) (h : a.length ≤ maxLen) : P_i_Crc a = some (((crcL a ^^^ 4294967295 : Nat) : Int), ()) := by
  simp only [P_i_Crc, B_i_Crc]
  have key := loopO_count (L_i_Crc_1 a) (fun i => ((crcL (a.take i) : Int), (i : Int), ())) a.length ((crcL a : Int), ()) (fun i hi => ?_) ?_
  · have e : loopO (L_i_Crc_1 a) (4294967295, 0, ()) = some ((crcL a : Int), ()) := key
    rw [e]
    simp only [bindO]
    have hm : IntKind.u32.max = ((4294967295 : Nat) : Int) := rfl
    have hxor : crcL a ^^^ 4294967295 < 2 ^ 32 := Nat.xor_lt_two_pow (by have := crcL_lt ha; omega) (by omega)
    rw [hm, bXor_u32 (by omega) (crcL_lt ha), Nat.xor_comm, wI64 (by omega)]
  · have h1 : ((i : Int) < (a.length : Int)) := by omega
    have h2 : (0 : Int) ≤ (i : Int) := by omega
    have hx := ha a[i] (List.getElem_mem hi)
    have hc := crcL_lt (byt_take ha i)
    simp only [L_i_Crc_1, dec_true h1, dec_true h2, cond_true, rd_int hi]
    have hxor : crcL (a.take i) ^^^ a[i].toNat < 2 ^ 32 := Nat.xor_lt_two_pow (by omega) (by omega)
    rw [show a[i] = ((a[i].toNat : Nat) : Int) by omega, wU32 (by omega), bXor_u32 hc (by omega)]
    rw [i_inner _ _ (by omega)]
    simp only
    rw [show ((i : Int) + 1) = ((i + 1 : Nat) : Int) by omega, wI64 (by simp only [maxLen] at h; omega), crcL_take hi]
  · simp [L_i_Crc_1]
end Go.Proofs.Ytiplpehengcinaa.Ev
