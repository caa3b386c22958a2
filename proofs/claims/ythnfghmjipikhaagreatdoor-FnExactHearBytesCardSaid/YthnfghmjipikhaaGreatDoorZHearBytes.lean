/- The program's HearBytes answers what the reference's answers, for all arguments: no condition. -/
import Derived.Test.YthnfghmjipikhaaGreatDoorXHearBytes
import Derived.Test.YthnfghmjipikhaaGreatDoorLwFnExactHearBytes
set_option linter.unusedVariables false
namespace Go.Proofs.YthnfghmjipikhaaGreatDoor.Ev
theorem smW : ∀ {k : K} {x : k.T}, Wf k x → Sm maxLen k x
  | .int _, _, _ => trivial
  | .bool, _, _ => trivial
  | .fnc _, _, _ => trivial
  | .str, _, h => h
  | .sl _ _, _, h => ⟨h.1, fun x hx => smW (h.2 x hx)⟩
  | .rs _ _, _, h => ⟨h.1, fun x hx => smW (h.2 x hx)⟩
  | .pa _ _, _, _ => trivial
  | .pair _ _, _, h => ⟨smW h.1, smW h.2⟩
theorem F2c {κ : IntKind} {n : Int} (h : Wf (.int κ) n) : κ.min ≤ n ∧ n ≤ κ.max := by
  simp only [Wf, Lit.wf, Bool.and_eq_true, decide_eq_true_eq] at h
  exact h
theorem u8W {n : Int} (h : Wf (.int .u8) n) : 0 ≤ n ∧ n < 256 := by
  have := F2c h
  simp only [IntKind.min, IntKind.max, IntKind.signed, IntKind.bits] at this
  simp at this
  omega
theorem bytW {a : List Int} (h : ∀ x ∈ a, Wf (.int .u8) x) : Byt a := fun x hx => u8W (h x hx)
end Go.Proofs.YthnfghmjipikhaaGreatDoor.Ev
namespace Go.Proofs.YthnfghmjipikhaaGreatDoor
theorem fnExactHearBytes_holds : Rows.FnExactHearBytesCardSaid :=
  Ev.fnExactHearBytes_card fun x hw => ⟨(), Ev.exactHearBytes x.1 x.2.1 (Ev.smW hw.1) (Ev.bytW hw.1.2.1.2) (Ev.bytW hw.1.2.2.1.2.2.2) (Ev.bytW hw.2.1.2)⟩
#print axioms fnExactHearBytes_holds
end Go.Proofs.YthnfghmjipikhaaGreatDoor
