/- Numbers and frames of bytes (GetBig, GetFrame), and ConnOk. -/
import Derived.Test.YtiplpehengcinaaA10
import Derived.Test.YtiplpehengcinaaA3
set_option linter.unusedVariables false
set_option linter.unusedSimpArgs false
namespace Go.Proofs.Ytiplpehengcinaa.Ev

theorem bOr_i64 {x y : Nat} (hx : x < 9223372036854775808) (hy : y < 9223372036854775808) : bOr .i64 (x : Int) (y : Int) = ((x ||| y : Nat) : Int) := by
  have h : x ||| y < 2 ^ 63 := Nat.or_lt_two_pow (by omega) (by omega)
  unfold bOr
  rw [BitVec.toNat_or, bits_nat (by simp only [IntKind.bits]; omega), bits_nat (by simp only [IntKind.bits]; omega)]
  exact wI64 (by omega)

/-- The number that k bytes from a place on are. -/
def bigN (b : List Int) (at_ : Nat) : Nat → Nat
  | 0 => 0
  | j + 1 => (bigN b at_ j * 256) ||| (b.getD (at_ + j) 0).toNat
theorem byt_getD {b : List Int} (hb : Byt b) (i : Nat) : 0 ≤ b.getD i 0 ∧ b.getD i 0 < 256 := by
  by_cases h : i < b.length
  · simp only [List.getD, List.getElem?_eq_getElem h, Option.getD_some]
    exact hb _ (List.getElem_mem h)
  · simp only [List.getD, List.getElem?_eq_none (show b.length ≤ i by omega), Option.getD_none]
    omega
theorem bigN_lt {b : List Int} (hb : Byt b) (at_ : Nat) : ∀ j, bigN b at_ j < 2 ^ (8 * j)
  | 0 => by simp [bigN]
  | j + 1 => by
    have h1 := bigN_lt hb at_ j
    have h2 := byt_getD hb (at_ + j)
    have e : 2 ^ (8 * (j + 1)) = 2 ^ (8 * j) * 256 := by rw [show 8 * (j + 1) = 8 * j + 8 by omega, Nat.pow_add]
    refine Nat.or_lt_two_pow ?_ ?_
    · rw [e]; exact Nat.mul_lt_mul_of_pos_right h1 (by omega)
    · have : 1 ≤ 2 ^ (8 * j) := Nat.one_le_two_pow
      rw [e]; omega

theorem big_step {b : List Int} (hb : Byt b) (at_ j : Nat) (hj : j < 7) (x : Int) (hx : x = b.getD (at_ + j) 0) : bOr .i64 (IntKind.i64.wrap (((bigN b at_ j : Nat) : Int) * 256)) (IntKind.i64.wrap x) = ((bigN b at_ (j + 1) : Nat) : Int) := by
  have h1 := bigN_lt hb at_ j
  have h2 := byt_getD hb (at_ + j)
  have h3 : 2 ^ (8 * j) ≤ 2 ^ 48 := Nat.pow_le_pow_right (by omega) (by omega)
  subst hx
  rw [show ((bigN b at_ j : Nat) : Int) * 256 = ((bigN b at_ j * 256 : Nat) : Int) by omega, wI64 (by omega), show b.getD (at_ + j) 0 = (((b.getD (at_ + j) 0).toNat : Nat) : Int) by omega, wI64 (by omega), bOr_i64 (by omega) (by omega)]
  simp only [bigN, Int.toNat_natCast]

def getBig (b : List Int) (a : Int) (k : Nat) : Int × Bool × Unit := if 0 ≤ a ∧ a ≤ (b.length : Int) - k then ((bigN b a.toNat k : Int), true, ()) else (0, false, ())

theorem s_GetBig_eq (b : List Int) (hb : Byt b) (h : b.length ≤ 1048576) (a : Int) (k : Nat) (hk : 1 ≤ k ∧ k ≤ 7) : P_s_GetBig b a (k : Int) = some (getBig b a k) := by
  simp only [P_s_GetBig, B_s_GetBig, l1In_eq, bindO, getBig]
  rw [dec_true (show (1 : Int) ≤ (k : Int) ∧ (k : Int) ≤ 7 by omega), w64 (by omega) (by omega)]
  simp only [Bool.not_true, cond_false]
  by_cases h1 : a < 0
  · rw [dec_true h1, if_neg (by omega)]; rfl
  rw [dec_false h1]
  by_cases h2 : a > (b.length : Int) - k
  · rw [dec_true h2, if_neg (by omega)]; rfl
  rw [dec_false h2, if_pos (by omega)]
  simp only [cond_false, bindS]
  have key := loopO_count (L_s_GetBig_0 (k : Int) a b) (fun j => ((bigN b a.toNat j : Int), (j : Int), ())) k ((bigN b a.toNat k : Int), ()) (fun j hj => ?_) ?_
  · have e : loopO (L_s_GetBig_0 (k : Int) a b) (0, 0, ()) = _ := key
    rw [e]
  · have g1 : (j : Int) < (k : Int) := by omega
    simp only [L_s_GetBig_0, dec_true g1, cond_true]
    rw [w64 (n := a + (j : Int)) (by omega) (by omega)]
    have g2 : 0 ≤ a + (j : Int) := by omega
    have g3 : a + (j : Int) < (b.length : Int) := by omega
    rw [dec_true g2, dec_true g3]
    simp only [cond_true]
    rw [big_step hb a.toNat j (by omega) _ (by
      rw [show a + (j : Int) = ((a.toNat + j : Nat) : Int) by omega, rd_int (by omega)]
      simp [List.getD, show a.toNat + j < b.length by omega]), show (j : Int) + 1 = ((j + 1 : Nat) : Int) by omega, wI64 (by omega)]
  · simp [L_s_GetBig_0]

theorem i_GetBig_eq (b : List Int) (hb : Byt b) (h : b.length ≤ 1048576) (a : Int) (k : Nat) (hk : 1 ≤ k ∧ k ≤ 7) : P_i_GetBig b a (k : Int) = some (getBig b a k) := by
  simp only [P_i_GetBig, B_i_GetBig, inRange_eq, bindO, getBig]
  rw [dec_true (show (1 : Int) ≤ (k : Int) ∧ (k : Int) ≤ 7 by omega), w64 (n := (b.length : Int) - (k : Int)) (by omega) (by omega)]
  simp only [Bool.not_true, cond_false]
  by_cases h1 : a < 0
  · rw [dec_true h1, if_neg (by omega)]; rfl
  rw [dec_false h1]
  by_cases h2 : a > (b.length : Int) - k
  · rw [dec_true h2, if_neg (by omega)]; rfl
  rw [dec_false h2, if_pos (by omega)]
  simp only [cond_false, bindS]
  rw [w64 (n := a + (k : Int)) (by omega) (by omega), dec_true (show 0 ≤ a by omega), dec_true (show a ≤ a + (k : Int) by omega), dec_true (show a + (k : Int) ≤ (b.length : Int) by omega)]
  simp only [cond_true]
  have hlen : ((b.take (a + (k : Int)).toNat).drop a.toNat).length = k := by simp; omega
  have key := loopO_count (L_i_GetBig_0 b a (k : Int)) (fun j => ((bigN b a.toNat j : Int), (j : Int), ())) k ((bigN b a.toNat k : Int), ()) (fun j hj => ?_) ?_
  · have e : loopO (L_i_GetBig_0 b a (k : Int)) (0, 0, ()) = _ := key
    rw [e]
  · have g1 : (j : Int) < (k : Int) := by omega
    have g2 : (0 : Int) ≤ (j : Int) := by omega
    simp only [L_i_GetBig_0]
    rw [w64 (n := a + (k : Int)) (by omega) (by omega)]
    simp only [hlen, dec_true g1, dec_true g2, cond_true]
    rw [big_step hb a.toNat j (by omega) _ (by
      rw [rd_int (by rw [hlen]; exact hj)]
      simp [List.getD, show a.toNat + j < b.length by omega]), show (j : Int) + 1 = ((j + 1 : Nat) : Int) by omega, wI64 (by omega)]
  · simp only [L_i_GetBig_0]
    rw [w64 (n := a + (k : Int)) (by omega) (by omega)]
    simp [hlen]

/-- A frame of bytes. -/
def getFrame (b : List Int) (a : Int) : TFrame × Int × Int × Unit :=
  if 0 ≤ a ∧ a ≤ (b.length : Int) - 9 then
    (if (bigN b a.toNat 3 : Int) > 1000 then ((0, 0, 0, []), a, 2, ())
     else if (bigN b a.toNat 3 : Int) > (b.length : Int) - a - 9 then ((0, 0, 0, []), a, 1, ())
     else ((rd (.int .u8) b (a + 3), rd (.int .u8) b (a + 4), bAnd .i64 (bigN b (a + 5).toNat 4 : Int) 2147483647, (b.take (a + 9 + (bigN b a.toNat 3 : Int)).toNat).drop (a + 9).toNat), a + 9 + (bigN b a.toNat 3 : Int), 0, ()))
  else ((0, 0, 0, []), a, 1, ())

theorem rd_byte {b : List Int} (hb : Byt b) {i : Int} (h0 : 0 ≤ i) (h1 : i < (b.length : Int)) : IntKind.i64.wrap (rd (.int .u8) b i) = rd (.int .u8) b i := by
  obtain ⟨n, rfl⟩ : ∃ n : Nat, i = (n : Int) := ⟨i.toNat, by omega⟩
  rw [rd_int (by omega)]
  have := hb b[n] (List.getElem_mem (by omega))
  exact w64 (by omega) (by omega)

theorem s_GetFrame_eq (b : List Int) (hb : Byt b) (h : b.length ≤ 1048576) (a : Int) (ha : -9223372036854775808 ≤ a ∧ a < 9223372036854775808) : P_s_GetFrame b a = some (getFrame b a) := by
  simp only [P_s_GetFrame, B_s_GetFrame]
  rw [show (3 : Int) = ((3 : Nat) : Int) from rfl, s_GetBig_eq b hb h a 3 (by omega), show (4 : Int) = ((4 : Nat) : Int) from rfl, s_GetBig_eq b hb h _ 4 (by omega)]
  simp only [bindO, getFrame]
  by_cases hin : 0 ≤ a ∧ a ≤ (b.length : Int) - 9
  · have hn := bigN_lt hb a.toNat 3
    rw [if_pos hin]
    have e3 : getBig b a 3 = ((bigN b a.toNat 3 : Int), true, ()) := by unfold getBig; rw [if_pos (by omega)]
    have e5 : IntKind.i64.wrap (a + 5) = a + 5 := w64 (by omega) (by omega)
    have e4 : getBig b (a + 5) 4 = ((bigN b (a + 5).toNat 4 : Int), true, ()) := by unfold getBig; rw [if_pos (by omega)]
    simp only [e5, e3, e4, Bool.not_true, cond_false]
    by_cases h1 : (bigN b a.toNat 3 : Int) > 1000
    · rw [dec_true h1, if_pos h1]; rfl
    rw [dec_false h1, if_neg h1]
    have e9 : IntKind.i64.wrap (IntKind.i64.wrap ((b.length : Int) - a) - 9) = (b.length : Int) - a - 9 := by rw [w64 (n := (b.length : Int) - a) (by omega) (by omega)]; exact w64 (by omega) (by omega)
    rw [e9]
    by_cases h2 : (bigN b a.toNat 3 : Int) > (b.length : Int) - a - 9
    · rw [dec_true h2, if_pos h2]; rfl
    rw [dec_false h2, if_neg h2]
    simp only [cond_false, bindS]
    have w3 : IntKind.i64.wrap (a + ((3 : Nat) : Int)) = a + 3 := w64 (by omega) (by omega)
    have w4 : IntKind.i64.wrap (a + ((4 : Nat) : Int)) = a + 4 := w64 (by omega) (by omega)
    have w9 : IntKind.i64.wrap (a + 9) = a + 9 := w64 (by omega) (by omega)
    have wn : IntKind.i64.wrap (a + 9 + (bigN b a.toNat 3 : Int)) = a + 9 + (bigN b a.toNat 3 : Int) := w64 (by omega) (by omega)
    simp only [w3, w4, w9, wn]
    rw [dec_true (show 0 ≤ a + 3 by omega), dec_true (show a + 3 < (b.length : Int) by omega), dec_true (show 0 ≤ a + 4 by omega), dec_true (show a + 4 < (b.length : Int) by omega), dec_true (show 0 ≤ a + 9 by omega), dec_true (show a + 9 ≤ a + 9 + (bigN b a.toNat 3 : Int) by omega), dec_true (show a + 9 + (bigN b a.toNat 3 : Int) ≤ (b.length : Int) by omega), dec_true (by simp; omega), dec_true (by simp; omega)]
    simp only [cond_true, List.nil_append]
    rw [rd_byte hb (show 0 ≤ a + 3 by omega) (by omega), rd_byte hb (show 0 ≤ a + 4 by omega) (by omega)]
  · rw [if_neg hin]
    by_cases h3 : 0 ≤ a ∧ a ≤ (b.length : Int) - 3
    · have e5 : IntKind.i64.wrap (a + 5) = a + 5 := w64 (by omega) (by omega)
      have e4 : getBig b (a + 5) 4 = (0, false, ()) := by unfold getBig; rw [if_neg (by omega)]
      simp only [e5, e4]
      cases (getBig b a 3).2.1 <;> rfl
    · have e3 : getBig b a 3 = (0, false, ()) := by unfold getBig; rw [if_neg (by omega)]
      simp only [e3]
      rfl

theorem i_GetFrame_eq (b : List Int) (hb : Byt b) (h : b.length ≤ 1048576) (a : Int) (ha : -9223372036854775808 ≤ a ∧ a < 9223372036854775808) : P_i_GetFrame b a = some (getFrame b a) := by
  simp only [P_i_GetFrame, B_i_GetFrame]
  rw [w64 (n := (b.length : Int) - 9) (by omega) (by omega)]
  simp only [getFrame]
  by_cases h1 : a < 0
  · rw [dec_true h1, if_neg (by omega)]; rfl
  rw [dec_false h1]
  by_cases h2 : a > (b.length : Int) - 9
  · rw [dec_true h2, if_neg (by omega)]; rfl
  rw [dec_false h2, if_pos (by omega)]
  have hn := bigN_lt hb a.toNat 3
  simp only [cond_false, bindS]
  rw [show (3 : Int) = ((3 : Nat) : Int) from rfl, i_GetBig_eq b hb h a 3 (by omega), show (4 : Int) = ((4 : Nat) : Int) from rfl, i_GetBig_eq b hb h _ 4 (by omega)]
  have e3 : getBig b a 3 = ((bigN b a.toNat 3 : Int), true, ()) := by unfold getBig; rw [if_pos (by omega)]
  have e5 : IntKind.i64.wrap (a + 5) = a + 5 := w64 (by omega) (by omega)
  have e4 : getBig b (a + 5) 4 = ((bigN b (a + 5).toNat 4 : Int), true, ()) := by unfold getBig; rw [if_pos (by omega)]
  have w9 : IntKind.i64.wrap (a + 9) = a + 9 := w64 (by omega) (by omega)
  simp only [bindO, e5, e3, e4, w9]
  by_cases h3 : (bigN b a.toNat 3 : Int) > 1000
  · rw [dec_true h3, if_pos h3]; rfl
  rw [dec_false h3, if_neg h3, w64 (n := (b.length : Int) - (a + 9)) (by omega) (by omega)]
  by_cases h4 : (bigN b a.toNat 3 : Int) > (b.length : Int) - a - 9
  · rw [dec_true (show (bigN b a.toNat 3 : Int) > (b.length : Int) - (a + 9) by omega), if_pos h4]; rfl
  rw [dec_false (show ¬ (bigN b a.toNat 3 : Int) > (b.length : Int) - (a + 9) by omega), if_neg h4]
  simp only [cond_false]
  have w3 : IntKind.i64.wrap (a + ((3 : Nat) : Int)) = a + 3 := w64 (by omega) (by omega)
  have w4 : IntKind.i64.wrap (a + ((4 : Nat) : Int)) = a + 4 := w64 (by omega) (by omega)
  have wn : IntKind.i64.wrap (a + 9 + (bigN b a.toNat 3 : Int)) = a + 9 + (bigN b a.toNat 3 : Int) := w64 (by omega) (by omega)
  simp only [w3, w4, wn]
  rw [dec_true (show 0 ≤ a + 3 by omega), dec_true (show a + 3 < (b.length : Int) by omega), dec_true (show 0 ≤ a + 4 by omega), dec_true (show a + 4 < (b.length : Int) by omega), dec_true (show 0 ≤ a + 9 by omega), dec_true (show a + 9 ≤ a + 9 + (bigN b a.toNat 3 : Int) by omega), dec_true (show a + 9 + (bigN b a.toNat 3 : Int) ≤ (b.length : Int) by omega)]
  simp only [cond_true]
  rw [clone_byte_eq _ (by simp; omega), rd_byte hb (show 0 ≤ a + 3 by omega) (by omega), rd_byte hb (show 0 ≤ a + 4 by omega) (by omega)]
  rfl
end Go.Proofs.Ytiplpehengcinaa.Ev
