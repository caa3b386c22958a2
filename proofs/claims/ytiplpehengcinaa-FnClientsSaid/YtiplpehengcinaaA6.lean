/- What NextReq answers. -/
import Derived.Test.YtiplpehengcinaaA5
set_option linter.unusedVariables false
set_option linter.unusedSimpArgs false
namespace Go.Proofs.Ytiplpehengcinaa.Ev

abbrev Req := Int × ByteArray × Int

def noReq : Req × List Int × Bool × Unit := ((0, ⟨#[]⟩, 0), [], false, ())
def nextReq (c : Client) : Req × List Int × Bool × Unit :=
  if clientOkB c = false then noReq
  else if c.2.2.1 = 1 then ((1, c.1, (c.2.1.length : Int)), [], true, ())
  else if c.2.2.1 = 2 then ((2, c.1, 0), [], true, ())
  else if c.2.2.1 = 3 then ((3, c.1, c.2.2.2), (c.2.1.take (min (c.2.2.2.toNat + 24) c.2.1.length)).drop c.2.2.2.toNat, true, ())
  else if c.2.2.1 = 4 then ((4, c.1, ((crcL c.2.1 ^^^ 4294967295 : Nat) : Int)), [], true, ())
  else noReq

theorem ok_off {c : Client} (h : clientOkB c = true) : c.2.1.length ≤ 400 ∧ 1 ≤ c.2.2.1 ∧ c.2.2.1 ≤ 6 ∧ 0 ≤ c.2.2.2 ∧ c.2.2.2 ≤ (c.2.1.length : Int) := by
  simp only [clientOkB, Bool.and_eq_true, decide_eq_true_eq] at h
  omega

theorem nextReq_len (c : Client) : (nextReq c).2.1.length ≤ c.2.1.length := by
  unfold nextReq noReq
  repeat' split
  all_goals simp
  omega

end Go.Proofs.Ytiplpehengcinaa.Ev
