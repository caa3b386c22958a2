/- The row of the law holds as soon as its plain function always answers true. -/
import Derived.Test.YtehbegmomfcmhaaEvC
import Derived.Test.YtehbegmomfcmhaaG2
import Derived.Test.YtehbegmomfcmhaaRows
set_option linter.unusedVariables false
set_option maxRecDepth 100000
namespace Go.Proofs.Ytehbegmomfcmhaa.Ev
open Go.ChangeShapes Go.WideShapes Go.ChangeAt Go.RowKit
theorem own : ownKnob Try.prog.godebug = none := by kernel_rfl
theorem fnExactPutUp_lifted (hg : ∀ x, WfAll p_w_FnExactPutUp x → ∃ y, F_w_FnExactPutUp.fn x = some (true, y)) (os : Os) (started : os.Started) (H : Type) (enc : TypeId × Value → H) :
    ReturnsInHanded {} Try.checked os 9 .any (Rows.fnExactPutUpSpec.pre6 enc Try.prog Try.f9 Rows.fnExactPutUpRow.domain false) (Rows.fnExactPutUpSpec.post enc Try.prog Try.f9 false true false false) :=
  law_lifted (C := Try.checked) (f := 9) (fn := Try.f9) own started (by kernel_rfl) Try.func9
    (ChangeSpec.witness6 (enc := enc) (C := Try.checked) false ⟨#[], #[.agg #[.slice none 0 0, .slice none 0 0, .int .i64 0, .int .i64 0, .slice none 0 0], .string ByteArray.empty, .int .i64 0, .slice none 0 0], []⟩ 8 (by kernel_rfl) (by kernel_rfl) (by kernel_rfl) (by kernel_rfl))
    S_w_FnExactPutUp hg (ts := [27, 9, 3, 50]) (by kernel_rfl) (.st Try.underlying27 (.st Try.underlying27 (by kernel_rfl) (.cons (by kernel_rfl) (by kernel_rfl) (.st Try.underlying24 (by kernel_rfl) (.cons (by kernel_rfl) (by kernel_rfl) (.rs Try.underlying22 (by kernel_rfl) (.str Try.underlying9)) (.one (by kernel_rfl) (by kernel_rfl) (.rs Try.underlying22 (by kernel_rfl) (.str Try.underlying9))))) (.cons (by kernel_rfl) (by kernel_rfl) (.int Try.underlying3) (.cons (by kernel_rfl) (by kernel_rfl) (.int Try.underlying3) (.one (by kernel_rfl) (by kernel_rfl) (.rs Try.underlying25 (by kernel_rfl) (.st Try.underlying139 (by kernel_rfl) (.cons (by kernel_rfl) (by kernel_rfl) (.str Try.underlying9) (.cons (by kernel_rfl) (by kernel_rfl) (.int Try.underlying3) (.cons (by kernel_rfl) (by kernel_rfl) (.sl Try.underlying50 (by kernel_rfl) (.int Try.underlying5)) (.one (by kernel_rfl) (by kernel_rfl) (.bool Try.underlying4)))))))))))) (by decide) (.one (.str Try.underlying9) (fun fs h => by have h2 := (Try.underlying9).symm.trans h; cases h2) (by decide) (by decide) (.one (.int Try.underlying3) (fun fs h => by have h2 := (Try.underlying3).symm.trans h; cases h2) (by decide) (by decide) (.one (.rs Try.underlying50 (by kernel_rfl) (.int Try.underlying5)) (fun fs h => by have h2 := (Try.underlying50).symm.trans h; cases h2) (by decide) (by decide) PsOf.nil)))) (tb := 4) (by kernel_rfl) Try.underlying4 (by kernel_rfl) (by intro t ht; simp only [List.mem_cons, List.not_mem_nil, or_false] at ht; rcases ht with rfl | rfl | rfl | rfl <;> exact ⟨by kernel_rfl, of_decide_eq_true (by kernel_rfl)⟩) (by kernel_rfl) (fun ds hd => match ds, hd with | [_, _, _, _], _ => rfl)
theorem fnExactPutUp_over (hg : ∀ x, WfAll p_w_FnExactPutUp x → ∃ y, F_w_FnExactPutUp.fn x = some (true, y)) : Rows.fnExactPutUpRow.holds Try.pinned (OpenSpec.ofChange Rows.fnExactPutUpSpec) :=
  OpenClaim.holds_of_wide 9 Try.f9 rfl rfl rfl rfl rfl rfl rfl ⟨rfl, rfl, rfl, rfl, rfl⟩ rfl rfl rfl rfl rfl (by kernel_rfl) Try.func9 (by kernel_rfl)
    (of_decide_eq_true (by kernel_rfl)) (by unfold Func.isWrapper; first | (rw [if_pos (by decide +kernel)]; kernel_rfl) | (rw [if_neg (by decide +kernel)]; exact ⟨rfl, rfl⟩))
    (fun os started H enc _ => fnExactPutUp_lifted hg os started H enc)
end Go.Proofs.Ytehbegmomfcmhaa.Ev
