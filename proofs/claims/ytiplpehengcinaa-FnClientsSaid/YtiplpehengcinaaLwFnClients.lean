/- The row of the law holds as soon as its plain function always answers true. -/
import Derived.Test.YtiplpehengcinaaEvC
import Derived.Test.YtiplpehengcinaaG2
import Derived.Test.YtiplpehengcinaaRows
set_option linter.unusedVariables false
set_option maxRecDepth 100000
namespace Go.Proofs.Ytiplpehengcinaa.Ev
open Go.ChangeShapes Go.WideShapes Go.ChangeAt Go.RowKit
theorem own : ownKnob Try.prog.godebug = none := by kernel_rfl
theorem fnClients_lifted (hg : ∀ x, WfAll [.val false (.rs 5 (.int .u8)) false] x → ∃ y, F_w_FnClients.fn x = some (true, y)) (os : Os) (started : os.Started) (H : Type) (enc : TypeId × Value → H) :
    ReturnsInHanded {} Try.checked os 6 .any (Rows.fnClientsSpec.pre6 enc Try.prog Try.f6 Rows.fnClientsRow.domain false) (Rows.fnClientsSpec.post enc Try.prog Try.f6 false true false false) :=
  law_lifted (C := Try.checked) (f := 6) (fn := Try.f6) own started (by kernel_rfl) Try.func6
    (ChangeSpec.witness6 (enc := enc) (C := Try.checked) false ⟨#[], #[.slice none 0 0], []⟩ 8 (by kernel_rfl) (by kernel_rfl) (by kernel_rfl) (by kernel_rfl))
    S_w_FnClients hg (ts := [22]) (by kernel_rfl) (.one (.rs Try.underlying22 (by kernel_rfl) (.int Try.underlying5)) (fun fs h => by have h2 := (Try.underlying22).symm.trans h; cases h2) (by decide) (by decide) PsOf.nil) (tb := 4) (by kernel_rfl) Try.underlying4 (by kernel_rfl) (by intro t ht; simp only [List.mem_cons, List.not_mem_nil, or_false] at ht; rcases ht with rfl <;> exact ⟨by kernel_rfl, of_decide_eq_true (by kernel_rfl)⟩) (by kernel_rfl) (fun ds hd => match ds, hd with | [_], _ => rfl)
theorem fnClients_over (hg : ∀ x, WfAll [.val false (.rs 5 (.int .u8)) false] x → ∃ y, F_w_FnClients.fn x = some (true, y)) : Rows.fnClientsRow.holds Try.pinned (OpenSpec.ofChange Rows.fnClientsSpec) :=
  OpenClaim.holds_of_wide 6 Try.f6 rfl rfl rfl rfl rfl rfl rfl ⟨rfl, rfl, rfl, rfl, rfl⟩ rfl rfl rfl rfl rfl (by kernel_rfl) Try.func6 (by kernel_rfl)
    (of_decide_eq_true (by kernel_rfl)) (by unfold Func.isWrapper; first | (rw [if_pos (by decide +kernel)]; kernel_rfl) | (rw [if_neg (by decide +kernel)]; exact ⟨rfl, rfl⟩))
    (fun os started H enc _ => fnClients_lifted hg os started H enc)
end Go.Proofs.Ytiplpehengcinaa.Ev
