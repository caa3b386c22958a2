/- A slice compared with nil: what is not empty is not nil; of an empty one nobody knows. -/
import Derived.Test.YtlgbhpphfimdbaaEv33
set_option linter.unusedVariables false
namespace Go.Proofs.Ytlgbhpphfimdbaa.Ev
def nilL (n : Nat) (neg : Bool) : Lf := bif decide (0 < n) then .bool neg else .anyb

def pNilEq {R : Type} (cfg : Cfg) (s : St) (neg : Bool) (t : Nat) (x : Operand) (κ : Kp R) : Option R :=
  match opnd s x, cfg.el t with
  | some (.one l, rx), some _ => match content cfg s t l with
    | some (sl, rl) => bif decide (0 < sl.xs.length) then κ (rx ++ rl) [] (.one (.bool neg)) else κ (rx ++ rl) [] (.one .anyb)
    | none => none
  | _, _ => none

theorem run_eqnil {P : Program} {t e : TypeId} (hu : P.underlying t = some (.slice e)) (A : Option Addr) (n c : Nat) (w : World) : (binOp .eql t (.slice A n c) (.slice none 0 0)).run P w = .ok (.bool A.isNone) w := by
  simp only [binOp]
  have h : (Op.equal t (.slice A n c) (.slice none 0 0)).run P w = .ok A.isNone w := by
    unfold Op.equal Op.maxDepth
    unfold Op.equalIn
    cases A <;> simp [Sem.run_bind, run_und hu]
  simp [h, Sem.run_bind]
theorem run_nenil {P : Program} {t e : TypeId} (hu : P.underlying t = some (.slice e)) (A : Option Addr) (n c : Nat) (w : World) : (binOp .neq t (.slice A n c) (.slice none 0 0)).run P w = .ok (.bool (!A.isNone)) w := by
  simp only [binOp]
  have h : (Op.equal t (.slice A n c) (.slice none 0 0)).run P w = .ok A.isNone w := by
    unfold Op.equal Op.maxDepth
    unfold Op.equalIn
    cases A <;> simp [Sem.run_bind, run_und hu]
  simp [h, Sem.run_bind]

def negOp : Bool → BinOp
  | true => .neq
  | false => .eql

theorem run_nil {P : Program} {t e : TypeId} (hu : P.underlying t = some (.slice e)) (neg : Bool) (A : Option Addr) (n c : Nat) (w : World) : (binOp (negOp neg) t (.slice A n c) (.slice none 0 0)).run P w = .ok (.bool (Bool.xor neg A.isNone)) w := by
  cases neg with
  | true => rw [negOp, run_nenil hu]; simp
  | false => rw [negOp, run_eqnil hu]; simp

theorem pNilEq_ok {R : Type} {P : Program} {cfg : Cfg} (hc : CfgOk P cfg) {s : St} {neg : Bool} {t : Nat} {x : Operand} {κ : Kp R} {r : R} (h : pNilEq cfg s neg t x κ = some r) (yt : Nat) :
    OutP P s (.binOp (negOp neg) t x (.const (.slice none 0 0)) yt) κ r := by
  unfold pNilEq at h
  split at h
  · rename_i l rx e ex et
    split at h
    · rename_i sl rl ec
      have key : ∀ (n0 : Nat) (w0 : World) (φ0 : Gh) (s' : St) (a : Act) (m : Mem) (o : Oper), o.op = .binOp (negOp neg) t x (.const (.slice none 0 0)) yt → Rel n0 w0 φ0 s' a m → Reads s' (rx ++ rl) →
          ∃ A : Option Addr, (0 < sl.xs.length → A.isNone = false) ∧ (execOp a.eval o).run P m.w = .ok (.value (.bool (Bool.xor neg A.isNone))) m.w := by
        intro n0 w0 φ0 s' a m o ho hr hrd
        have hro := content_ok ec hr (Reads.app.1 hrd).2 (opnd_ok ex hr (Reads.app.1 hrd).1)
        obtain ⟨A, c, e1, hl, _, hA⟩ := hro
        injection e1 with e1 _
        refine ⟨A, fun hp => ?_, ?_⟩
        · obtain ⟨ad, rfl, _⟩ := hA hp
          rfl
        · have hg : (eqGuard (negOp neg) t x (.const (.slice none 0 0)) (.slice A sl.xs.length c) (.slice none 0 0)).run P m.w = .ok () m.w := by
            cases neg <;> simp [negOp, eqGuard]
          have he : a.eval (.const (.slice none 0 0)) = .slice none 0 0 := rfl
          simp [execOp, ho, e1, he, Sem.run_bind, hg, run_nil (hc.el et)]
      cases hd : decide (0 < sl.xs.length) with
      | true =>
        rw [hd] at h
        refine .mk' _ _ h (Reads.app.2 ⟨opnd_reads ex, content_reads ec⟩) fun n0 w0 φ0 s' a m oo ho hr hrd => ?_
        obtain ⟨A, hA, hrun⟩ := key n0 w0 φ0 s' a m oo ho hr hrd
        rw [hA (of_decide_eq_true hd)] at hrun
        exact ⟨_, hrun, by simp [AVC, LfC]⟩
      | false =>
        rw [hd] at h
        refine .mk' _ _ h (Reads.app.2 ⟨opnd_reads ex, content_reads ec⟩) fun n0 w0 φ0 s' a m oo ho hr hrd => ?_
        obtain ⟨A, hA, hrun⟩ := key n0 w0 φ0 s' a m oo ho hr hrd
        exact ⟨_, hrun, _, rfl⟩
    · cases h
  · cases h
end Go.Proofs.Ytlgbhpphfimdbaa.Ev
