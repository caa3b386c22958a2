/- More operations that change no memory: the lesser and the greater of two whole numbers; a struct of its parts. -/
import Derived.Test.YtlgbhpphfimdbaaEv30
import Derived.Laws.Small
import Derived.Laws.Tables
namespace Go.Proofs.Ytlgbhpphfimdbaa.Ev
set_option linter.unusedVariables false
set_option linter.unusedSimpArgs false

def pMin {R : Type} (s : St) (x y : Operand) (κ : Kp R) : Option R :=
  match opnd s x, opnd s y with
  | some (.one (.int k a), rx), some (.one (.int _ b), ry) => κ (rx ++ ry) [] (.one (.int k (bif decide (b < a) then b else a)))
  | _, _ => none
def pMax {R : Type} (s : St) (x y : Operand) (κ : Kp R) : Option R :=
  match opnd s x, opnd s y with
  | some (.one (.int k a), rx), some (.one (.int _ b), ry) => κ (rx ++ ry) [] (.one (.int k (bif decide (b > a) then b else a)))
  | _, _ => none

theorem bif_if {α : Type} {p : Prop} [Decidable p] (x y : α) : (bif decide p then x else y) = if p then x else y := by
  by_cases h : p <;> simp [h]

theorem pMin_ok {R : Type} {P : Program} {s : St} {x y : Operand} {κ : Kp R} {r : R} (h : pMin s x y κ = some r) (ts : Array TypeId) :
    OutP P s (.call { callee := .builtin .min, args := #[x, y], argTypes := ts }) κ r := by
  unfold pMin at h
  split at h
  · rename_i k a rx k' b ry ex ey
    refine .mk' _ _ h (Reads.app.2 ⟨opnd_reads ex, opnd_reads ey⟩) fun n0 w0 φ0 s' ac m oo ho hr hrd => ⟨_, ?_, rfl⟩
    have hx : ac.eval x = .int k a := opnd_ok ex hr (Reads.app.1 hrd).1
    have hy : ac.eval y = .int k' b := opnd_ok ey hr (Reads.app.1 hrd).2
    simp [execOp, ho, hx, hy, resolve, invoke, builtin, Sem.run_bind, run_min_int2, bif_if]
  · cases h

theorem pMax_ok {R : Type} {P : Program} {s : St} {x y : Operand} {κ : Kp R} {r : R} (h : pMax s x y κ = some r) (ts : Array TypeId) :
    OutP P s (.call { callee := .builtin .max, args := #[x, y], argTypes := ts }) κ r := by
  unfold pMax at h
  split at h
  · rename_i k a rx k' b ry ex ey
    refine .mk' _ _ h (Reads.app.2 ⟨opnd_reads ex, opnd_reads ey⟩) fun n0 w0 φ0 s' ac m oo ho hr hrd => ⟨_, ?_, rfl⟩
    have hx : ac.eval x = .int k a := opnd_ok ex hr (Reads.app.1 hrd).1
    have hy : ac.eval y = .int k' b := opnd_ok ey hr (Reads.app.1 hrd).2
    simp [execOp, ho, hx, hy, resolve, invoke, builtin, Sem.run_bind, run_max_int2, bif_if]
  · cases h

end Go.Proofs.Ytlgbhpphfimdbaa.Ev
