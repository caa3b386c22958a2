/- The row of the law holds as soon as its plain function always answers true. -/
import Derived.Test.YtiplpehengcinaaEvC
import Derived.Test.YtiplpehengcinaaG4
import Derived.Test.YtiplpehengcinaaRows
set_option linter.unusedVariables false
set_option maxRecDepth 100000
namespace Go.Proofs.Ytiplpehengcinaa.Ev
open Go.ChangeShapes Go.WideShapes Go.ChangeAt Go.RowKit
theorem own : ownKnob Try.prog.godebug = none := by kernel_rfl
theorem fnExactNextReq_lifted (hg : ∀ x, WfAll [.val true (.pair .str (.pair (.rs 5 (.int .u8)) kResp)) false] x → ∃ y, F_w_FnExactNextReq.fn x = some (true, y)) (os : Os) (started : os.Started) (H : Type) (enc : TypeId × Value → H) :
    ReturnsInHanded {} Try.checked os 3 .any (Rows.fnExactNextReqSpec.pre6 enc Try.prog Try.f3 Rows.fnExactNextReqRow.domain false) (Rows.fnExactNextReqSpec.post enc Try.prog Try.f3 false true false false) :=
  law_lifted (C := Try.checked) (f := 3) (fn := Try.f3) own started (by kernel_rfl) Try.func3
    (ChangeSpec.witness6 (enc := enc) (C := Try.checked) false ⟨#[], #[.agg #[.string ByteArray.empty, .slice none 0 0, .int .i64 0, .int .i64 0]], []⟩ 8 (by kernel_rfl) (by kernel_rfl) (by kernel_rfl) (by kernel_rfl))
    S_w_FnExactNextReq hg (ts := [24]) (by kernel_rfl) (.st Try.underlying24 (.st Try.underlying24 (by kernel_rfl) (.cons (by kernel_rfl) (by kernel_rfl) (.str Try.underlying9) (.cons (by kernel_rfl) (by kernel_rfl) (.rs Try.underlying22 (by kernel_rfl) (.int Try.underlying5)) (.cons (by kernel_rfl) (by kernel_rfl) (.int Try.underlying3) (.one (by kernel_rfl) (by kernel_rfl) (.int Try.underlying3)))))) (by decide) PsOf.nil) (tb := 4) (by kernel_rfl) Try.underlying4 (by kernel_rfl) (by intro t ht; simp only [List.mem_cons, List.not_mem_nil, or_false] at ht; rcases ht with rfl <;> exact ⟨by kernel_rfl, of_decide_eq_true (by kernel_rfl)⟩) (by kernel_rfl) (fun ds hd => match ds, hd with | [_], _ => rfl)
theorem fnExactNextReq_over (hg : ∀ x, WfAll [.val true (.pair .str (.pair (.rs 5 (.int .u8)) kResp)) false] x → ∃ y, F_w_FnExactNextReq.fn x = some (true, y)) : Rows.fnExactNextReqRow.holds Try.pinned (OpenSpec.ofChange Rows.fnExactNextReqSpec) :=
  OpenClaim.holds_of_wide 3 Try.f3 rfl rfl rfl rfl rfl rfl rfl ⟨rfl, rfl, rfl, rfl, rfl⟩ rfl rfl rfl rfl rfl (by kernel_rfl) Try.func3 (by kernel_rfl)
    (of_decide_eq_true (by kernel_rfl)) (by unfold Func.isWrapper; first | (rw [if_pos (by decide +kernel)]; kernel_rfl) | (rw [if_neg (by decide +kernel)]; exact ⟨rfl, rfl⟩))
    (fun os started H enc _ => fnExactNextReq_lifted hg os started H enc)
end Go.Proofs.Ytiplpehengcinaa.Ev
