/- What the laws' helpers for bytes and clients do: sizes, copies, equality, marks. -/
import Derived.Test.YtiplpehengcinaaPl
import Derived.Test.YtiplpehengcinaaPu
set_option linter.unusedVariables false
set_option linter.unusedSimpArgs false
namespace Go.Proofs.Ytiplpehengcinaa.Ev

theorem eqByteS_refl (a : List Int) (h : a.length ≤ maxLen) : P_w_eqByteS a a = some (true, ()) := by
  simp only [P_w_eqByteS, B_w_eqByteS]
  simp only [decide_true, Bool.not_true, cond_false]
  refine loopO_count (L_w_eqByteS_0 a a) (fun i => ((i : Int), ())) a.length (true, ()) (fun i hi => ?_) ?_
  · have h1 : ((i : Int) < (a.length : Int)) := by omega
    have h2 : (0 : Int) ≤ (i : Int) := by omega
    simp only [L_w_eqByteS_0, dec_true h1, dec_true h2, cond_true, decide_true, Bool.not_true, cond_false]
    rw [w64 (by omega) (by simp only [maxLen] at h; omega)]
    rfl
  · simp [L_w_eqByteS_0]

theorem toByteS_eq (a : List Int) (h : a.length ≤ 281474976710656) : P_w_toByteS a = some (a, ()) := by
  simp only [P_w_toByteS, B_w_toByteS]
  have h1 : (0 : Int) ≤ (a.length : Int) := by omega
  rw [dec_true h1, Int.toNat_natCast, dec_true (show a.length ≤ 9223372036854775807 by omega), dec_true (show 1 * a.length ≤ 281474976710656 by omega)]
  simp only [cond_true]
  have key := loopO_count (L_w_toByteS_0 a) (fun i => ((i : Int), a.take i ++ List.replicate (a.length - i) 0, ())) a.length (a, ()) (fun i hi => ?_) ?_
  · simpa using key
  · have h1 : ((i : Int) < (a.length : Int)) := by omega
    have h2 : (0 : Int) ≤ (i : Int) := by omega
    have hl : (a.take i ++ List.replicate (a.length - i) (0 : Int)).length = a.length := by simp; omega
    simp only [L_w_toByteS_0, hl, dec_true h1, dec_true h2, cond_true]
    rw [w64 (by omega) (by omega), Int.toNat_natCast, rd_nat hi]
    have : (a.take i ++ List.replicate (a.length - i) (0 : Int)).set i a[i] = a.take (i + 1) ++ List.replicate (a.length - (i + 1)) 0 := by
      rw [List.set_append_right _ _ (by simp; omega)]
      rw [List.take_succ_eq_append_getElem hi, List.append_assoc]
      congr 1
      rw [show (a.take i).length = i by simp; omega, Nat.sub_self, show a.length - i = (a.length - (i + 1)) + 1 by omega, List.replicate_succ]
      rfl
    rw [this]
    rfl
  · simp [L_w_toByteS_0]

abbrev Client := ByteArray × List Int × Int × Int

theorem szByteS_eq (a : List Int) (l : Int) (h0 : l ≤ 1048576) (h1 : 0 ≤ l) (h : a.length ≤ maxLen) : P_w_szByteS a l = some (if (a.length : Int) ≤ l then (l - a.length : Int) else -1, ()) := by
  simp only [P_w_szByteS, B_w_szByteS, maxLen] at *
  rw [w64 (by omega) (by omega)]
  split
  · rw [dec_false (by omega)]; rfl
  · rw [dec_true (by omega)]; rfl

theorem szClient_eq (c : Client) (h : c.1.size ≤ maxLen) (h2 : c.2.1.length ≤ maxLen) : P_w_szClient c 1048576 = some (if (c.1.size : Int) + c.2.1.length ≤ 1048576 then (1048576 : Int) - c.1.size - c.2.1.length else -1, ()) := by
  simp only [P_w_szClient, B_w_szClient, maxLen] at *
  rw [w64 (by omega) (by omega)]
  by_cases h3 : (c.1.size : Int) ≤ 1048576
  · rw [dec_false (by omega)]
    simp only [cond_false]
    rw [szByteS_eq _ _ (by omega) (by omega) (by simp only [maxLen]; omega)]
    simp only [bindO]
    split
    · rw [dec_false (by omega), if_pos (by omega)]; rfl
    · rw [dec_true (by omega), if_neg (by omega)]; rfl
  · rw [dec_true (by omega), if_neg (by omega)]; rfl

theorem toClient_eq (c : Client) (h : c.2.1.length ≤ 281474976710656) : P_w_toClient c = some (c, ()) := by
  simp only [P_w_toClient, B_w_toClient]
  rw [toByteS_eq _ h]
  rfl

theorem eqClient_refl (c : Client) (h : c.2.1.length ≤ maxLen) : P_w_eqClient c c = some (true, ()) := by
  simp only [P_w_eqClient, B_w_eqClient]
  rw [eqByteS_refl _ h]
  simp [bindO]

def marked (m : Int) (n : Nat) : List Int := (List.range n).map fun j => IntKind.u8.wrap (m + (j : Nat))

theorem markByteS_eq (a : List Int) (m : Int) (h0 : 0 ≤ m) (h : m + a.length < 9223372036854775808) : P_w_markByteS a m = some (m + a.length, marked m a.length, ()) := by
  simp only [P_w_markByteS, B_w_markByteS]
  have key := loopO_count L_w_markByteS_0 (fun i => (m + (i : Int), (i : Int), marked m i ++ a.drop i, ())) a.length (m + a.length, marked m a.length, ()) (fun i hi => ?_) ?_
  · simpa [marked] using key
  · have h1 : ((i : Int) < (a.length : Int)) := by omega
    have h2 : (0 : Int) ≤ (i : Int) := by omega
    have hl : (marked m i ++ a.drop i).length = a.length := by simp [marked]; omega
    simp only [L_w_markByteS_0, hl, dec_true h1, dec_true h2, cond_true]
    rw [w64 (by omega) (by omega), w64 (by omega) (by omega), Int.toNat_natCast]
    have : (marked m i ++ a.drop i).set i (IntKind.u8.wrap (m + (i : Int))) = marked m (i + 1) ++ a.drop (i + 1) := by
      rw [List.set_append_right _ _ (by simp [marked])]
      rw [show (marked m i).length = i by simp [marked], Nat.sub_self, List.drop_eq_getElem_cons hi, List.set_cons_zero]
      simp [marked, List.range_succ]
    rw [this]
    simp only [Int.natCast_add, Int.natCast_one, Int.add_assoc]
  · simp [L_w_markByteS_0, marked]

theorem heldByteS_eq (n : Nat) (m : Int) (h0 : 0 ≤ m) (h : m + n < 9223372036854775808) : P_w_heldByteS (marked m n) m = some (m + n, ()) := by
  simp only [P_w_heldByteS, B_w_heldByteS]
  have hl : (marked m n).length = n := by simp [marked]
  have key := loopO_count (L_w_heldByteS_0 (marked m n)) (fun i => (m + (i : Int), (i : Int), ())) n (m + n, ()) (fun i hi => ?_) ?_
  · simpa [marked] using key
  · have h1 : ((i : Int) < (n : Int)) := by omega
    have h2 : (0 : Int) ≤ (i : Int) := by omega
    simp only [L_w_heldByteS_0, hl, dec_true h1, dec_true h2, cond_true]
    have hr : rd (.int .u8) (marked m n) (i : Int) = IntKind.u8.wrap (m + (i : Int)) := by
      rw [rd_nat (by rw [hl]; exact hi)]
      simp [marked]
    rw [hr, w64 (by omega) (by omega), w64 (by omega) (by omega)]
    simp only [decide_true, Bool.not_true, cond_false, Int.natCast_add, Int.natCast_one, Int.add_assoc]
  · simp [L_w_heldByteS_0, hl]

def markedC (m : Int) (c : Client) : Client := (c.1, marked m c.2.1.length, c.2.2)
theorem markClient_eq (c : Client) (m : Int) (h0 : 0 ≤ m) (h : m + c.2.1.length < 9223372036854775808) : P_w_markClient c m = some (m + c.2.1.length, markedC m c, ()) := by
  simp only [P_w_markClient, B_w_markClient]
  rw [markByteS_eq _ _ h0 h]
  rfl
theorem heldClient_eq (c : Client) (m : Int) (h0 : 0 ≤ m) (h : m + c.2.1.length < 9223372036854775808) : P_w_heldClient (markedC m c) m = some (m + c.2.1.length, ()) := by
  simp only [P_w_heldClient, B_w_heldClient, markedC]
  rw [heldByteS_eq _ _ h0 h]
  simp only [bindO]
  rw [dec_false (by omega)]
  rfl
end Go.Proofs.Ytiplpehengcinaa.Ev
