/- The row of the law holds as soon as its plain function always answers true. -/
import Derived.Test.YtehbegmomfcmhaaEvC
import Derived.Test.YtehbegmomfcmhaaG2
import Derived.Test.YtehbegmomfcmhaaRows
set_option linter.unusedVariables false
set_option maxRecDepth 100000
namespace Go.Proofs.Ytehbegmomfcmhaa.Ev
open Go.ChangeShapes Go.WideShapes Go.ChangeAt Go.RowKit
theorem own : ownKnob Try.prog.godebug = none := by kernel_rfl
theorem fnExactServerOk_lifted (hg : ∀ x, WfAll [.val true (.pair (.pair (.pair (.rs 9 .str) (.rs 9 .str)) (.pair (.int .i64) (.pair (.int .i64) (.rs 139 kUp)))) (.rs 135 kHeld)) false] x → ∃ y, F_w_FnExactServerOk.fn x = some (true, y)) (os : Os) (started : os.Started) (H : Type) (enc : TypeId × Value → H) :
    ReturnsInHanded {} Try.checked os 3 .any (Rows.fnExactServerOkSpec.pre6 enc Try.prog Try.f3 Rows.fnExactServerOkRow.domain false) (Rows.fnExactServerOkSpec.post enc Try.prog Try.f3 false true false false) :=
  law_lifted (C := Try.checked) (f := 3) (fn := Try.f3) own started (by kernel_rfl) Try.func3
    (ChangeSpec.witness6 (enc := enc) (C := Try.checked) false ⟨#[], #[.agg #[.slice none 0 0, .slice none 0 0, .int .i64 0, .int .i64 0, .slice none 0 0, .slice none 0 0]], []⟩ 8 (by kernel_rfl) (by kernel_rfl) (by kernel_rfl) (by kernel_rfl))
    S_w_FnExactServerOk hg (ts := [30]) (by kernel_rfl) (.st Try.underlying30 (.st Try.underlying30 (by kernel_rfl) (.cons (by kernel_rfl) (by kernel_rfl) (.st Try.underlying27 (by kernel_rfl) (.cons (by kernel_rfl) (by kernel_rfl) (.st Try.underlying24 (by kernel_rfl) (.cons (by kernel_rfl) (by kernel_rfl) (.rs Try.underlying22 (by kernel_rfl) (.str Try.underlying9)) (.one (by kernel_rfl) (by kernel_rfl) (.rs Try.underlying22 (by kernel_rfl) (.str Try.underlying9))))) (.cons (by kernel_rfl) (by kernel_rfl) (.int Try.underlying3) (.cons (by kernel_rfl) (by kernel_rfl) (.int Try.underlying3) (.one (by kernel_rfl) (by kernel_rfl) (.rs Try.underlying25 (by kernel_rfl) (.st Try.underlying139 (by kernel_rfl) (.cons (by kernel_rfl) (by kernel_rfl) (.str Try.underlying9) (.cons (by kernel_rfl) (by kernel_rfl) (.int Try.underlying3) (.cons (by kernel_rfl) (by kernel_rfl) (.sl Try.underlying50 (by kernel_rfl) (.int Try.underlying5)) (.one (by kernel_rfl) (by kernel_rfl) (.bool Try.underlying4)))))))))))) (.one (by kernel_rfl) (by kernel_rfl) (.rs Try.underlying28 (by kernel_rfl) (.st Try.underlying135 (by kernel_rfl) (.cons (by kernel_rfl) (by kernel_rfl) (.int Try.underlying3) (.one (by kernel_rfl) (by kernel_rfl) (.st Try.underlying133 (by kernel_rfl) (.cons (by kernel_rfl) (by kernel_rfl) (.int Try.underlying3) (.one (by kernel_rfl) (by kernel_rfl) (.int Try.underlying3))))))))))) (by decide) PsOf.nil) (tb := 4) (by kernel_rfl) Try.underlying4 (by kernel_rfl) (by intro t ht; simp only [List.mem_cons, List.not_mem_nil, or_false] at ht; rcases ht with rfl <;> exact ⟨by kernel_rfl, of_decide_eq_true (by kernel_rfl)⟩) (by kernel_rfl) (fun ds hd => match ds, hd with | [_], _ => rfl)
theorem fnExactServerOk_over (hg : ∀ x, WfAll [.val true (.pair (.pair (.pair (.rs 9 .str) (.rs 9 .str)) (.pair (.int .i64) (.pair (.int .i64) (.rs 139 kUp)))) (.rs 135 kHeld)) false] x → ∃ y, F_w_FnExactServerOk.fn x = some (true, y)) : Rows.fnExactServerOkRow.holds Try.pinned (OpenSpec.ofChange Rows.fnExactServerOkSpec) :=
  OpenClaim.holds_of_wide 3 Try.f3 rfl rfl rfl rfl rfl rfl rfl ⟨rfl, rfl, rfl, rfl, rfl⟩ rfl rfl rfl rfl rfl (by kernel_rfl) Try.func3 (by kernel_rfl)
    (of_decide_eq_true (by kernel_rfl)) (by unfold Func.isWrapper; first | (rw [if_pos (by decide +kernel)]; kernel_rfl) | (rw [if_neg (by decide +kernel)]; exact ⟨rfl, rfl⟩))
    (fun os started H enc _ => fnExactServerOk_lifted hg os started H enc)
end Go.Proofs.Ytehbegmomfcmhaa.Ev
