/- The row of the law holds as soon as its plain function always answers true. -/
import Derived.Test.YtehbegmomfcmhaaEvC
import Derived.Test.YtehbegmomfcmhaaG4
import Derived.Test.YtehbegmomfcmhaaRows
set_option linter.unusedVariables false
set_option maxRecDepth 100000
namespace Go.Proofs.Ytehbegmomfcmhaa.Ev
open Go.ChangeShapes Go.WideShapes Go.ChangeAt Go.RowKit
theorem own : ownKnob Try.prog.godebug = none := by kernel_rfl
theorem fnOpened_lifted (hg : ∀ x, WfAll [.val false (.rs 5 (.int .u8)) false] x → ∃ y, F_w_FnOpened.fn x = some (true, y)) (os : Os) (started : os.Started) (H : Type) (enc : TypeId × Value → H) :
    ReturnsInHanded {} Try.checked os 7 .any (Rows.fnOpenedSpec.pre6 enc Try.prog Try.f7 Rows.fnOpenedRow.domain false) (Rows.fnOpenedSpec.post enc Try.prog Try.f7 false true false false) :=
  law_lifted (C := Try.checked) (f := 7) (fn := Try.f7) own started (by kernel_rfl) Try.func7
    (ChangeSpec.witness6 (enc := enc) (C := Try.checked) false ⟨#[], #[.slice none 0 0], []⟩ 8 (by kernel_rfl) (by kernel_rfl) (by kernel_rfl) (by kernel_rfl))
    S_w_FnOpened hg (ts := [50]) (by kernel_rfl) (.one (.rs Try.underlying50 (by kernel_rfl) (.int Try.underlying5)) (fun fs h => by have h2 := (Try.underlying50).symm.trans h; cases h2) (by decide) (by decide) PsOf.nil) (tb := 4) (by kernel_rfl) Try.underlying4 (by kernel_rfl) (by intro t ht; simp only [List.mem_cons, List.not_mem_nil, or_false] at ht; rcases ht with rfl <;> exact ⟨by kernel_rfl, of_decide_eq_true (by kernel_rfl)⟩) (by kernel_rfl) (fun ds hd => match ds, hd with | [_], _ => rfl)
theorem fnOpened_over (hg : ∀ x, WfAll [.val false (.rs 5 (.int .u8)) false] x → ∃ y, F_w_FnOpened.fn x = some (true, y)) : Rows.fnOpenedRow.holds Try.pinned (OpenSpec.ofChange Rows.fnOpenedSpec) :=
  OpenClaim.holds_of_wide 7 Try.f7 rfl rfl rfl rfl rfl rfl rfl ⟨rfl, rfl, rfl, rfl, rfl⟩ rfl rfl rfl rfl rfl (by kernel_rfl) Try.func7 (by kernel_rfl)
    (of_decide_eq_true (by kernel_rfl)) (by unfold Func.isWrapper; first | (rw [if_pos (by decide +kernel)]; kernel_rfl) | (rw [if_neg (by decide +kernel)]; exact ⟨rfl, rfl⟩))
    (fun os started H enc _ => fnOpened_lifted hg os started H enc)
end Go.Proofs.Ytehbegmomfcmhaa.Ev
