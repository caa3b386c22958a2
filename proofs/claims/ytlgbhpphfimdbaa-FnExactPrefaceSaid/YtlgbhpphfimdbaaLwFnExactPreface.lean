/- The row of the law holds as soon as its plain function always answers true. -/
import Derived.Test.YtlgbhpphfimdbaaEv41
import Derived.Test.YtlgbhpphfimdbaaG1
import Derived.Test.YtlgbhpphfimdbaaRows
set_option linter.unusedVariables false
set_option maxRecDepth 100000
namespace Go.Proofs.Ytlgbhpphfimdbaa.Ev
open Go.ChangeShapes Go.WideShapes Go.ChangeAt Go.RowKit
theorem own : ownKnob Try.prog.godebug = none := by kernel_rfl
theorem fnExactPreface_lifted (hg : ∀ x, WfAll [] x → ∃ y, F_w_FnExactPreface.fn x = some (true, y)) (os : Os) (started : os.Started) (H : Type) (enc : TypeId × Value → H) :
    ReturnsInHanded {} Try.checked os 3 .any (Rows.fnExactPrefaceSpec.pre6 enc Try.prog Try.f3 Rows.fnExactPrefaceRow.domain false) (Rows.fnExactPrefaceSpec.post enc Try.prog Try.f3 false true false false) :=
  law_lifted (C := Try.checked) (f := 3) (fn := Try.f3) own started (by kernel_rfl) Try.func3
    (ChangeSpec.witness6 (enc := enc) (C := Try.checked) false ⟨#[], #[], []⟩ 8 (by kernel_rfl) (by kernel_rfl) (by kernel_rfl) (by kernel_rfl))
    S_w_FnExactPreface hg (ts := []) (by kernel_rfl) PsOf.nil (tb := 4) (by kernel_rfl) Try.underlying4 (by kernel_rfl) (by intro t ht; cases ht) (by kernel_rfl) (fun ds hd => match ds, hd with | [], _ => rfl)
theorem fnExactPreface_over (hg : ∀ x, WfAll [] x → ∃ y, F_w_FnExactPreface.fn x = some (true, y)) : Rows.fnExactPrefaceRow.holds Try.pinned (OpenSpec.ofChange Rows.fnExactPrefaceSpec) :=
  OpenClaim.holds_of_wide 3 Try.f3 rfl rfl rfl rfl rfl rfl rfl ⟨rfl, rfl, rfl, rfl, rfl⟩ rfl rfl rfl rfl rfl (by kernel_rfl) Try.func3 (by kernel_rfl)
    (of_decide_eq_true (by kernel_rfl)) (by unfold Func.isWrapper; first | (rw [if_pos (by decide +kernel)]; kernel_rfl) | (rw [if_neg (by decide +kernel)]; exact ⟨rfl, rfl⟩))
    (fun os started H enc _ => fnExactPreface_lifted hg os started H enc)
end Go.Proofs.Ytlgbhpphfimdbaa.Ev
