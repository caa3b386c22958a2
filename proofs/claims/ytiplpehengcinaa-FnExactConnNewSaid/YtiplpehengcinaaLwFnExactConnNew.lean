/- The row of the law holds as soon as its plain function always answers true. -/
import Derived.Test.YtiplpehengcinaaEvC
import Derived.Test.YtiplpehengcinaaG5
import Derived.Test.YtiplpehengcinaaRows
set_option linter.unusedVariables false
set_option maxRecDepth 100000
namespace Go.Proofs.Ytiplpehengcinaa.Ev
open Go.ChangeShapes Go.WideShapes Go.ChangeAt Go.RowKit
theorem own : ownKnob Try.prog.godebug = none := by kernel_rfl
theorem fnExactConnNew_lifted (hg : ∀ x, WfAll [] x → ∃ y, F_w_FnExactConnNew.fn x = some (true, y)) (os : Os) (started : os.Started) (H : Type) (enc : TypeId × Value → H) :
    ReturnsInHanded {} Try.checked os 5 .any (Rows.fnExactConnNewSpec.pre6 enc Try.prog Try.f5 Rows.fnExactConnNewRow.domain false) (Rows.fnExactConnNewSpec.post enc Try.prog Try.f5 false true false false) :=
  law_lifted (C := Try.checked) (f := 5) (fn := Try.f5) own started (by kernel_rfl) Try.func5
    (ChangeSpec.witness6 (enc := enc) (C := Try.checked) false ⟨#[], #[], []⟩ 8 (by kernel_rfl) (by kernel_rfl) (by kernel_rfl) (by kernel_rfl))
    S_w_FnExactConnNew hg (ts := []) (by kernel_rfl) PsOf.nil (tb := 4) (by kernel_rfl) Try.underlying4 (by kernel_rfl) (by intro t ht; cases ht) (by kernel_rfl) (fun ds hd => match ds, hd with | [], _ => rfl)
theorem fnExactConnNew_over (hg : ∀ x, WfAll [] x → ∃ y, F_w_FnExactConnNew.fn x = some (true, y)) : Rows.fnExactConnNewRow.holds Try.pinned (OpenSpec.ofChange Rows.fnExactConnNewSpec) :=
  OpenClaim.holds_of_wide 5 Try.f5 rfl rfl rfl rfl rfl rfl rfl ⟨rfl, rfl, rfl, rfl, rfl⟩ rfl rfl rfl rfl rfl (by kernel_rfl) Try.func5 (by kernel_rfl)
    (of_decide_eq_true (by kernel_rfl)) (by unfold Func.isWrapper; first | (rw [if_pos (by decide +kernel)]; kernel_rfl) | (rw [if_neg (by decide +kernel)]; exact ⟨rfl, rfl⟩))
    (fun os started H enc _ => fnExactConnNew_lifted hg os started H enc)
end Go.Proofs.Ytiplpehengcinaa.Ev
