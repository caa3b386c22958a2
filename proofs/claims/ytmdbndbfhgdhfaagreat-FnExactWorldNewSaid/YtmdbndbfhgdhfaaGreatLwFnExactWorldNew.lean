/- The row of the law holds as soon as its plain function always answers true. -/
import Derived.Test.YtmdbndbfhgdhfaaGreatEvC
import Derived.Test.YtmdbndbfhgdhfaaGreatG5
import Derived.Test.YtmdbndbfhgdhfaaGreatRows
set_option linter.unusedVariables false
set_option maxRecDepth 100000
namespace Go.Proofs.YtmdbndbfhgdhfaaGreat.Ev
open Go.ChangeShapes Go.WideShapes Go.ChangeAt Go.RowKit
theorem own : ownKnob Tryz.prog.godebug = none := by kernel_rfl
theorem fnExactWorldNew_lifted (hg : ∀ x, WfAll [.val false (.int .i64) false, .val false (.rs 111 kClient) false] x → ∃ y, F_w_FnExactWorldNew.fn x = some (true, y)) (os : Os) (started : os.Started) (H : Type) (enc : TypeId × Value → H) :
    ReturnsInHanded {} Tryz.checked os 6 .any (Rows.fnExactWorldNewSpec.pre6 enc Tryz.prog Tryz.f6 Rows.fnExactWorldNewRow.domain false) (Rows.fnExactWorldNewSpec.post enc Tryz.prog Tryz.f6 false true false false) :=
  law_lifted (C := Tryz.checked) (f := 6) (fn := Tryz.f6) own started (by kernel_rfl) Tryz.func6
    (ChangeSpec.witness6 (enc := enc) (C := Tryz.checked) false ⟨#[], #[.int .i64 0, .slice none 0 0], []⟩ 8 (by kernel_rfl) (by kernel_rfl) (by kernel_rfl) (by kernel_rfl))
    S_w_FnExactWorldNew hg (ts := [3, 31]) (by kernel_rfl) (.one (.int Tryz.underlying3) (fun fs h => by have h2 := (Tryz.underlying3).symm.trans h; cases h2) (by decide) (by decide) (.one (.rs Tryz.underlying31 (by kernel_rfl) (.st Tryz.underlying111 (by kernel_rfl) (.cons (by kernel_rfl) (by kernel_rfl) (.str Tryz.underlying9) (.cons (by kernel_rfl) (by kernel_rfl) (.sl Tryz.underlying84 (by kernel_rfl) (.int Tryz.underlying5)) (.cons (by kernel_rfl) (by kernel_rfl) (.int Tryz.underlying3) (.one (by kernel_rfl) (by kernel_rfl) (.int Tryz.underlying3))))))) (fun fs h => by have h2 := (Tryz.underlying31).symm.trans h; cases h2) (by decide) (by decide) PsOf.nil)) (tb := 4) (by kernel_rfl) Tryz.underlying4 (by kernel_rfl) (by intro t ht; simp only [List.mem_cons, List.not_mem_nil, or_false] at ht; rcases ht with rfl | rfl <;> exact ⟨by kernel_rfl, of_decide_eq_true (by kernel_rfl)⟩) (by kernel_rfl) (fun ds hd => match ds, hd with | [_, _], _ => rfl)
theorem fnExactWorldNew_over (hg : ∀ x, WfAll [.val false (.int .i64) false, .val false (.rs 111 kClient) false] x → ∃ y, F_w_FnExactWorldNew.fn x = some (true, y)) : Rows.fnExactWorldNewRow.holds Tryz.pinned (OpenSpec.ofChange Rows.fnExactWorldNewSpec) :=
  OpenClaim.holds_of_wide 6 Tryz.f6 rfl rfl rfl rfl rfl rfl rfl ⟨rfl, rfl, rfl, rfl, rfl⟩ rfl rfl rfl rfl rfl (by kernel_rfl) Tryz.func6 (by kernel_rfl)
    (of_decide_eq_true (by kernel_rfl)) (by unfold Func.isWrapper; first | (rw [if_pos (by decide +kernel)]; kernel_rfl) | (rw [if_neg (by decide +kernel)]; exact ⟨rfl, rfl⟩))
    (fun os started H enc _ => fnExactWorldNew_lifted hg os started H enc)
end Go.Proofs.YtmdbndbfhgdhfaaGreat.Ev
