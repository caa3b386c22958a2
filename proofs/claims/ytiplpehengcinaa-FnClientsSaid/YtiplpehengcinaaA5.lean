/- Bits of numbers below 2 to the 32; what Crc reckons. -/
import Derived.Test.YtiplpehengcinaaA3
set_option linter.unusedVariables false
set_option linter.unusedSimpArgs false
namespace Go.Proofs.Ytiplpehengcinaa.Ev

theorem wI64 {n : Nat} (h : n < 9223372036854775808) : IntKind.i64.wrap (n : Int) = (n : Int) := w64 (by omega) (by omega)
theorem wU32 {n : Nat} (h : n < 4294967296) : IntKind.u32.wrap (n : Int) = (n : Int) := by
  simp only [IntKind.wrap, IntKind.bits, IntKind.signed]
  simp
  omega

theorem bits_nat {w x : Nat} (h : x < 2 ^ w) : (BitVec.ofInt w (x : Int)).toNat = x := by
  rw [BitVec.ofInt_natCast, BitVec.toNat_ofNat]
  exact Nat.mod_eq_of_lt h

theorem bXor_i64 {x y : Nat} (hx : x < 4294967296) (hy : y < 4294967296) : bXor .i64 (x : Int) (y : Int) = ((x ^^^ y : Nat) : Int) := by
  have h : x ^^^ y < 2 ^ 32 := Nat.xor_lt_two_pow (by omega) (by omega)
  unfold bXor
  rw [BitVec.toNat_xor, bits_nat (by simp only [IntKind.bits]; omega), bits_nat (by simp only [IntKind.bits]; omega)]
  exact wI64 (by omega)
theorem bXor_u32 {x y : Nat} (hx : x < 4294967296) (hy : y < 4294967296) : bXor .u32 (x : Int) (y : Int) = ((x ^^^ y : Nat) : Int) := by
  have h : x ^^^ y < 2 ^ 32 := Nat.xor_lt_two_pow (by omega) (by omega)
  unfold bXor
  rw [BitVec.toNat_xor, bits_nat (by simp only [IntKind.bits]; omega), bits_nat (by simp only [IntKind.bits]; omega)]
  exact wU32 (by omega)
theorem bAnd_i64 {x y : Nat} (hx : x < 4294967296) (hy : y < 4294967296) : bAnd .i64 (x : Int) (y : Int) = ((x &&& y : Nat) : Int) := by
  have h : x &&& y < 2 ^ 32 := Nat.and_lt_two_pow _ (by omega)
  unfold bAnd
  rw [BitVec.toNat_and, bits_nat (by simp only [IntKind.bits]; omega), bits_nat (by simp only [IntKind.bits]; omega)]
  exact wI64 (by omega)
theorem bAnd_u32 {x y : Nat} (hx : x < 4294967296) (hy : y < 4294967296) : bAnd .u32 (x : Int) (y : Int) = ((x &&& y : Nat) : Int) := by
  have h : x &&& y < 2 ^ 32 := Nat.and_lt_two_pow _ (by omega)
  unfold bAnd
  rw [BitVec.toNat_and, bits_nat (by simp only [IntKind.bits]; omega), bits_nat (by simp only [IntKind.bits]; omega)]
  exact wU32 (by omega)

def crcStep (c : Nat) : Nat := if c &&& 1 = 1 then (c / 2) ^^^ 2197175160 else c / 2
def crcN (c : Nat) : Nat → Nat
  | 0 => c
  | i + 1 => crcStep (crcN c i)
theorem crcStep_lt {c : Nat} (h : c < 4294967296) : crcStep c < 4294967296 := by
  unfold crcStep
  split
  · have : (c / 2) ^^^ 2197175160 < 2 ^ 32 := Nat.xor_lt_two_pow (by omega) (by omega)
    omega
  · omega
theorem crcN_lt {c : Nat} (h : c < 4294967296) : ∀ i, crcN c i < 4294967296
  | 0 => h
  | i + 1 => crcStep_lt (crcN_lt h i)

theorem half (c : Nat) : ((c : Int)).fdiv 2 = ((c / 2 : Nat) : Int) := by
  rw [Int.fdiv_eq_ediv_of_nonneg _ (by omega)]
  omega

def crcL (a : List Int) : Nat := a.foldl (fun c x => crcN (c ^^^ x.toNat) 8) 4294967295
theorem crcF_lt (a : List Int) (ha : Byt a) : ∀ c, c < 4294967296 → a.foldl (fun c x => crcN (c ^^^ x.toNat) 8) c < 4294967296 := by
  induction a with
  | nil => intro c h; exact h
  | cons x a ih =>
    intro c h
    have hx := ha x (by simp)
    refine ih (fun y hy => ha y (by simp [hy])) _ (crcN_lt ?_ 8)
    have : c ^^^ x.toNat < 2 ^ 32 := Nat.xor_lt_two_pow (by omega) (by omega)
    omega
theorem byt_take {a : List Int} (h : Byt a) (i : Nat) : Byt (a.take i) := fun x hx => h x (List.mem_of_mem_take hx)
theorem crcL_lt {a : List Int} (h : Byt a) : crcL a < 4294967296 := crcF_lt a h _ (by omega)
theorem crcL_take {a : List Int} {i : Nat} (hi : i < a.length) : crcL (a.take (i + 1)) = crcN (crcL (a.take i) ^^^ a[i].toNat) 8 := by
  unfold crcL
  rw [List.take_succ_eq_append_getElem hi, List.foldl_append]
  rfl

end Go.Proofs.Ytiplpehengcinaa.Ev
