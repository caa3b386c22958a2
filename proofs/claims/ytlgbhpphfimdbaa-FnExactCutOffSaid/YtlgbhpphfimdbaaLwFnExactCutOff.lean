/- The row of the law holds as soon as its plain function always answers true. -/
import Derived.Test.YtlgbhpphfimdbaaEv41
import Derived.Test.YtlgbhpphfimdbaaG1
import Derived.Test.YtlgbhpphfimdbaaRows
set_option linter.unusedVariables false
set_option maxRecDepth 100000
namespace Go.Proofs.Ytlgbhpphfimdbaa.Ev
open Go.ChangeShapes Go.WideShapes Go.ChangeAt Go.RowKit
theorem own : ownKnob Try.prog.godebug = none := by kernel_rfl
theorem fnExactCutOff_lifted (hg : ∀ x, WfAll [.val true (.pair .str (.pair (.rs 5 (.int .u8)) (.pair (.int .i64) (.int .i64)))) false] x → ∃ y, F_w_FnExactCutOff.fn x = some (true, y)) (os : Os) (started : os.Started) (H : Type) (enc : TypeId × Value → H) :
    ReturnsInHanded {} Try.checked os 7 .any (Rows.fnExactCutOffSpec.pre6 enc Try.prog Try.f7 Rows.fnExactCutOffRow.domain false) (Rows.fnExactCutOffSpec.post enc Try.prog Try.f7 false true false false) :=
  law_lifted (C := Try.checked) (f := 7) (fn := Try.f7) own started (by kernel_rfl) Try.func7
    (ChangeSpec.witness6 (enc := enc) (C := Try.checked) false ⟨#[], #[.agg #[.string ByteArray.empty, .slice none 0 0, .int .i64 0, .int .i64 0]], []⟩ 8 (by kernel_rfl) (by kernel_rfl) (by kernel_rfl) (by kernel_rfl))
    S_w_FnExactCutOff hg (ts := [28]) (by kernel_rfl) (.st Try.underlying28 (.st Try.underlying28 (by kernel_rfl) (.cons (by kernel_rfl) (by kernel_rfl) (.str Try.underlying9) (.cons (by kernel_rfl) (by kernel_rfl) (.rs Try.underlying22 (by kernel_rfl) (.int Try.underlying5)) (.cons (by kernel_rfl) (by kernel_rfl) (.int Try.underlying3) (.one (by kernel_rfl) (by kernel_rfl) (.int Try.underlying3)))))) (by decide) PsOf.nil) (tb := 4) (by kernel_rfl) Try.underlying4 (by kernel_rfl) (by intro t ht; simp only [List.mem_cons, List.not_mem_nil, or_false] at ht; rcases ht with rfl <;> exact ⟨by kernel_rfl, of_decide_eq_true (by kernel_rfl)⟩) (by kernel_rfl) (fun ds hd => match ds, hd with | [_], _ => rfl)
theorem fnExactCutOff_over (hg : ∀ x, WfAll [.val true (.pair .str (.pair (.rs 5 (.int .u8)) (.pair (.int .i64) (.int .i64)))) false] x → ∃ y, F_w_FnExactCutOff.fn x = some (true, y)) : Rows.fnExactCutOffRow.holds Try.pinned (OpenSpec.ofChange Rows.fnExactCutOffSpec) :=
  OpenClaim.holds_of_wide 7 Try.f7 rfl rfl rfl rfl rfl rfl rfl ⟨rfl, rfl, rfl, rfl, rfl⟩ rfl rfl rfl rfl rfl (by kernel_rfl) Try.func7 (by kernel_rfl)
    (of_decide_eq_true (by kernel_rfl)) (by unfold Func.isWrapper; first | (rw [if_pos (by decide +kernel)]; kernel_rfl) | (rw [if_neg (by decide +kernel)]; exact ⟨rfl, rfl⟩))
    (fun os started H enc _ => fnExactCutOff_lifted hg os started H enc)
end Go.Proofs.Ytlgbhpphfimdbaa.Ev
