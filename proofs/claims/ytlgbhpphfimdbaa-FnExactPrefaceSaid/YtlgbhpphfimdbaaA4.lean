/- Numbers as bytes, frames, and the preface: the program's and the reference's are the same. -/
import Derived.Test.YtlgbhpphfimdbaaA3
set_option linter.unusedVariables false
set_option linter.unusedSimpArgs false
namespace Go.Proofs.Ytlgbhpphfimdbaa.Ev

def bigAt (n : Int) (k j : Nat) : Int := IntKind.u8.wrap (n.fdiv (2 ^ (8 * (k - 1 - j))))
def big (n : Int) (k : Nat) : List Int := (List.range k).map (bigAt n k)

theorem big_len (n : Int) (k : Nat) : (big n k).length = k := by simp [big]

theorem wu64 {n : Int} (h0 : 0 ≤ n) (h1 : n < 18446744073709551616) : IntKind.u64.wrap n = n := by
  simp only [IntKind.wrap, IntKind.bits, IntKind.signed]
  simp
  omega

theorem putLoop (v : Int) (b : List Int) (k : Nat) (hk : k ≤ 8) (hb : b.length + 8 ≤ 140737488355328) : loopO (L_s_PutBig_0 (v, ())) ((k : Int) - 1, b, ()) = some (b ++ big v k, ()) := by
  have key := loopO_count (L_s_PutBig_0 (v, ())) (fun j => ((k : Int) - 1 - (j : Int), b ++ (List.range j).map (bigAt v k), ())) k (b ++ big v k, ()) (fun j hj => ?_) ?_
  · simpa using key
  · have h1 : (k : Int) - 1 - (j : Int) ≥ 0 := by omega
    have e1 : (k : Int) - 1 - (j : Int) = ((k - 1 - j : Nat) : Int) := by omega
    have hs : IntKind.u64.wrap (IntKind.i64.wrap (8 * ((k : Int) - 1 - (j : Int)))) = ((8 * (k - 1 - j) : Nat) : Int) := by
      rw [w64 (by omega) (by omega), wu64 (by omega) (by omega)]
      omega
    have hm : min (8 * (k - 1 - j)) IntKind.i64.bits = 8 * (k - 1 - j) := Nat.min_eq_left (by simp only [IntKind.bits]; omega)
    simp only [L_s_PutBig_0, dec_true h1, cond_true, hs, Int.toNat_natCast, hm]
    rw [dec_false (by omega)]
    simp only [cond_false]
    have hl : (b ++ (List.range j).map (bigAt v k)).length = b.length + j := by simp
    rw [dec_true (by rw [hl]; simp; omega), dec_true (by rw [hl]; simp; omega)]
    simp only [cond_true]
    rw [w64 (by omega) (by omega), List.range_succ, List.map_append, List.append_assoc]
    have e2 : (k : Int) - 1 - (j : Int) - 1 = (k : Int) - 1 - ((j + 1 : Nat) : Int) := by omega
    rw [e2]
    rfl
  · have h1 : ¬ ((k : Int) - 1 - (k : Int) ≥ 0) := by omega
    simp only [L_s_PutBig_0, dec_false h1, cond_false]
    rfl

def clamp (n : Int) : Int := if n < 0 then 0 else n

theorem s_PutBig_eq (b : List Int) (n : Int) (k : Nat) (h1 : 1 ≤ k) (hk : k ≤ 8) (hb : b.length + 8 ≤ 140737488355328) : P_s_PutBig b n (k : Int) = some (b ++ big (clamp n) k, ()) := by
  simp only [P_s_PutBig, B_s_PutBig]
  rw [dec_true (by simp; omega), dec_true (by simp; omega)]
  have e : (bif decide (n < 0) then some ((0 : Int), ()) else some (n, ())) = some (clamp n, ()) := by
    unfold clamp
    by_cases h : n < 0 <;> simp [h]
  simp only [cond_true, e, bindO, l1In_eq]
  rw [dec_true (by omega)]
  simp only [Bool.not_true, cond_false, List.nil_append]
  rw [w64 (by omega) (by omega)]
  exact putLoop _ b k hk hb

theorem i_putBig_eq (b : List Int) (n : Int) (k : Nat) (hk : k ≤ 8) (hb : b.length + 8 ≤ 140737488355328) : P_i_putBig b n (k : Int) = some (b ++ big (clamp n) k, ()) := by
  simp only [P_i_putBig, B_i_putBig]
  have e : L_i_putBig_0 n = L_s_PutBig_0 (clamp n, ()) := by
    funext l
    have : (bif decide (0 > n) then (0 : Int) else n) = clamp n := by
      unfold clamp
      by_cases h : n < 0 <;> simp [h]
    simp only [L_i_putBig_0, L_s_PutBig_0, this]
  rw [e, w64 (by omega) (by omega)]
  exact putLoop _ b k hk hb

abbrev Frame := Int × Int × Int × List Int
def frameOkB (f : Frame) : Bool := decide (0 ≤ f.1 ∧ f.1 ≤ 255) && decide (0 ≤ f.2.1 ∧ f.2.1 ≤ 255) && decide (0 ≤ f.2.2.1 ∧ f.2.2.1 ≤ 2147483647) && decide ((f.2.2.2.length : Int) ≤ 1000)
theorem s_FrameOk_eq (f : Frame) : P_s_FrameOk f = some (frameOkB f, ()) := by
  simp only [P_s_FrameOk, B_s_FrameOk, l1In_eq, bindO, frameOkB]
  cases decide (0 ≤ f.1 ∧ f.1 ≤ 255) <;> cases decide (0 ≤ f.2.1 ∧ f.2.1 ≤ 255) <;> cases decide (0 ≤ f.2.2.1 ∧ f.2.2.1 ≤ 2147483647) <;> simp

def frameB (f : Frame) : List Int := big (f.2.2.2.length : Int) 3 ++ [IntKind.u8.wrap f.1, IntKind.u8.wrap f.2.1] ++ big (clamp f.2.2.1) 4 ++ f.2.2.2

theorem i_putFrame_eq (b : List Int) (f : Frame) (h : b.length + f.2.2.2.length + 24 ≤ 140737488355328) : P_i_putFrame b f = some (b ++ frameB f, ()) := by
  simp only [P_i_putFrame, B_i_putFrame]
  rw [show (3 : Int) = ((3 : Nat) : Int) from rfl, i_putBig_eq b _ 3 (by omega) (by omega)]
  have hc : clamp (f.2.2.2.length : Int) = (f.2.2.2.length : Int) := by unfold clamp; rw [if_neg (by omega)]
  simp only [bindO, hc]
  have hl := big_len (f.2.2.2.length : Int) 3
  rw [dec_true (by simp [hl]; omega), dec_true (by simp [hl]; omega)]
  simp only [cond_true]
  rw [show (4 : Int) = ((4 : Nat) : Int) from rfl, i_putBig_eq _ _ 4 (by omega) (by simp [hl]; omega)]
  simp only [bindO]
  have hl4 := big_len (clamp f.2.2.1) 4
  rw [dec_true (by simp [hl, hl4]; omega), dec_true (by simp [hl, hl4]; omega)]
  simp [frameB]

theorem s_PutFrame_eq (f : Frame) (h : f.2.2.2.length + 24 ≤ 140737488355328) : P_s_PutFrame f = some (if frameOkB f then frameB f else [], ()) := by
  simp only [P_s_PutFrame, B_s_PutFrame, pe, s_FrameOk_eq, bindO]
  cases frameOkB f with
  | false => rfl
  | true =>
    simp only [Bool.not_true, cond_false]
    rw [show (3 : Int) = ((3 : Nat) : Int) from rfl, s_PutBig_eq [] _ 3 (by omega) (by omega) (by simp)]
    have hc : clamp (f.2.2.2.length : Int) = (f.2.2.2.length : Int) := by unfold clamp; rw [if_neg (by omega)]
    simp only [hc]
    have hl := big_len (f.2.2.2.length : Int) 3
    rw [dec_true (by simp [hl]), dec_true (by simp [hl])]
    simp only [cond_true]
    rw [show (4 : Int) = ((4 : Nat) : Int) from rfl, s_PutBig_eq _ _ 4 (by omega) (by omega) (by simp [hl])]
    have hl4 := big_len (clamp f.2.2.1) 4
    simp only
    rw [dec_true (by simp [hl, hl4]; omega), dec_true (by simp [hl, hl4]; omega)]
    simp [frameB]

def pri : List Int := [80, 82, 73, 32, 42, 32, 72, 84, 84, 80, 47, 50, 46, 48, 13, 10, 13, 10, 83, 77, 13, 10, 13, 10]
def prefaceB : List Int := pri ++ frameB (4, 0, 0, [])
theorem preface_len : prefaceB.length = 33 := by simp [prefaceB, frameB, pri, big_len]
theorem s_Preface_eq : P_s_Preface = some (prefaceB, ()) := by
  simp only [P_s_Preface, B_s_Preface]
  rw [s_PutFrame_eq _ (by simp)]
  have : frameOkB (4, 0, 0, []) = true := by decide
  rw [this]
  have hl : (frameB (4, 0, 0, [])).length = 9 := by simp [frameB, big_len]
  simp only [bindO, if_true]
  rw [dec_true (by rw [hl]; simp), dec_true (by rw [hl]; simp)]
  rfl
theorem i_Preface_eq : P_i_Preface = some (prefaceB, ()) := by
  simp only [P_i_Preface, B_i_Preface]
  rw [i_putFrame_eq _ _ (by simp)]
  rfl

theorem exactPreface : P_w_FnExactPreface = some (true, ()) := by
  simp only [P_w_FnExactPreface, B_w_FnExactPreface, s_Preface_eq, i_Preface_eq, bindO]
  have hl := preface_len
  rw [eqByteS_refl _ (by rw [hl]; simp [maxLen]), markByteS_eq _ _ (by omega) (by rw [hl]; omega)]
  simp only
  rw [heldByteS_eq _ _ (by omega) (by rw [hl]; omega), hl]
  simp
end Go.Proofs.Ytlgbhpphfimdbaa.Ev
