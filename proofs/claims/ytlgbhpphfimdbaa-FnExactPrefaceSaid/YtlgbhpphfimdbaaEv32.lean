/- A struct of its parts. -/
import Derived.Test.YtlgbhpphfimdbaaEv31
import Derived.Great.FillDense
namespace Go.Proofs.Ytlgbhpphfimdbaa.Ev
set_option linter.unusedVariables false
set_option linter.unusedSimpArgs false

def fillL (flds : List (Nat × Nat × Bool)) : List Lf → List (Nat × List Lf) → Option (List Lf)
  | ls, [] => some ls
  | ls, (i, vs) :: rest => match flds[i]? with
    | some (off, size, _) => match Nat.beq vs.length size, Nat.ble (off + vs.length) ls.length with
      | true, true => fillL flds (ls.take off ++ vs ++ ls.drop (off + vs.length)) rest
      | _, _ => none
    | none => none

def partsL (s : St) : List (Nat × Operand) → Option (List (Nat × List Lf) × Rds)
  | [] => some ([], [])
  | (i, x) :: ps => match opnd s x, partsL s ps with
    | some (v, rx), some (vs, r) => match avL v with
      | some ls => some ((i, ls) :: vs, rx ++ r)
      | none => none
    | _, _ => none

theorem partsL_reads {s : St} : ∀ {ps : List (Nat × Operand)} {vs : List (Nat × List Lf)} {rd : Rds}, partsL s ps = some (vs, rd) → Reads s rd
  | [], vs, rd, h => by simp only [partsL] at h; injection h with h; injection h with _ h; subst h; exact Reads.nil _
  | (i, x) :: ps, vs, rd, h => by
    simp only [partsL] at h
    split at h
    · rename_i e1 e2
      split at h
      · injection h with h; injection h with _ h; subst h
        exact Reads.app.2 ⟨opnd_reads e1, partsL_reads e2⟩
      · cases h
    · cases h

/-- Parts, as values. -/
def PtC (s : St) (m : Mem) (p : Nat × List Lf) (q : Nat × Value) : Prop := p.1 = q.1 ∧ ∃ cs : List Value, q.2.cells = cs.toArray ∧ All2 (LfC s m) p.2 cs

theorem partsL_ok {s s' : St} {n : Nat} {w0 : World} {φ0 : Gh} {a : Act} {m : Mem} (hr : Rel n w0 φ0 s' a m) : ∀ {ps : List (Nat × Operand)} {vs : List (Nat × List Lf)} {rd : Rds}, partsL s ps = some (vs, rd) → Reads s' rd →
    All2 (PtC s' m) vs (ps.map fun p => (p.1, a.eval p.2))
  | [], vs, rd, h, _ => by simp only [partsL] at h; injection h with h; injection h with h _; subst h; trivial
  | (i, x) :: ps, vs, rd, h, hrd => by
    simp only [partsL] at h
    split at h
    · rename_i e1 e2
      split at h
      · rename_i ls el
        injection h with h; injection h with h1 h2; subst h1; subst h2
        obtain ⟨g1, g2⟩ := Reads.app.1 hrd
        obtain ⟨cs, hcs, hl⟩ := av_cells el (opnd_ok e1 hr g1)
        exact ⟨⟨rfl, cs, hcs, hl⟩, partsL_ok hr e2 g2⟩
      · cases h
    · cases h

theorem foldl_spl (off : Nat) (l : List Value) (cs : Array Value) (h : off + l.length ≤ cs.size) :
    (l.toArray.zipIdx.foldl (fun cs (c, j) => cs.setIfInBounds (off + j) c) cs).toList = spl cs.toList off l := by
  have key : ∀ (l : List Value) (st : Nat) (cs : Array Value), off + st + l.length ≤ cs.size → ((l.zipIdx st).foldl (fun cs (p : Value × Nat) => cs.setIfInBounds (off + p.2) p.1) cs).toList = spl cs.toList (off + st) l := by
    intro l
    induction l with
    | nil => intro st cs _; simp [spl]
    | cons v l ih =>
      intro st cs h
      simp only [List.length_cons] at h
      rw [List.zipIdx_cons, List.foldl_cons, ih (st + 1) _ (by simp; omega)]
      apply List.ext_getElem?
      intro q
      have hl1 : off + (st + 1) + l.length ≤ (cs.setIfInBounds (off + st) v).toList.length := by simp; omega
      have hl2 : off + st + (v :: l).length ≤ cs.toList.length := by simp; omega
      rw [spl_get hl1, spl_get hl2]
      simp only [Array.toList_setIfInBounds, List.length_cons]
      by_cases h1 : q < off + st
      · rw [if_pos (by omega), if_pos h1, List.getElem?_set_ne (by omega)]
      · rw [if_neg h1]
        by_cases h2 : q = off + st
        · subst h2
          rw [if_pos (by omega), if_pos (by omega), List.getElem?_set_self (by simp; omega), Nat.sub_self]; rfl
        · rw [if_neg (by omega)]
          by_cases h3 : q < off + (st + 1) + l.length
          · rw [if_pos h3, if_pos (by omega)]
            rw [show q - (off + st) = (q - (off + (st + 1))) + 1 by omega, List.getElem?_cons_succ]
          · rw [if_neg h3, if_neg (by omega), List.getElem?_set_ne (by omega)]
  have := key l 0 cs (by omega)
  rw [Nat.add_zero] at this
  rw [← this, ← Array.foldl_toList]
  simp

theorem fillL_ok {place : Nat → Option (Nat × Nat)} {flds : List (Nat × Nat × Bool)} (hp : ∀ i f, flds[i]? = some f → place i = some (f.1, f.2.1)) {s : St} {m : Mem} : ∀ {vs : List (Nat × List Lf)} {qs : List (Nat × Value)} {ls ls' : List Lf} {cs : Array Value},
    fillL flds ls vs = some ls' → All2 (PtC s m) vs qs → All2 (LfC s m) ls cs.toList → ∃ cs', Instr.fill place cs qs = some cs' ∧ All2 (LfC s m) ls' cs'.toList
  | [], qs, ls, ls', cs, h, hq, hl => by
    cases qs with
    | cons _ _ => exact hq.elim
    | nil => simp only [fillL] at h; injection h with h; subst h; exact ⟨cs, rfl, hl⟩
  | (i, us) :: vs, qs, ls, ls', cs, h, hq, hl => by
    cases qs with
    | nil => exact hq.elim
    | cons q qs =>
      obtain ⟨j, v⟩ := q
      obtain ⟨⟨e, us', hus, hu⟩, hq⟩ := hq
      simp only at e hus hu; subst e
      simp only [fillL] at h
      split at h
      · rename_i off size ag ef
        split at h
        · rename_i e1 e2
          have e1 := Nat.eq_of_beq_eq_true e1
          have e2 := Nat.le_of_ble_eq_true e2
          have hlen := hl.len
          have hul := hu.len
          have hcl : cs.toList.length = cs.size := Array.length_toList
          have hvs : v.cells.size = us'.length := by rw [hus]; simp
          have hfit : off + us'.length ≤ cs.size := by omega
          have hsp := foldl_spl off us' cs hfit
          obtain ⟨cs', h1, h2⟩ := fillL_ok hp (cs := us'.toArray.zipIdx.foldl (fun cs (c, j) => cs.setIfInBounds (off + j) c) cs) h hq (by
            rw [hsp]
            unfold spl
            rw [← hul]
            exact ((hl.take _).app hu).app (hl.drop _))
          refine ⟨cs', ?_, h2⟩
          simp only [Instr.fill, hp _ _ ef]
          rw [if_neg (by simp; omega), hus]
          exact h1
        · cases h
      · cases h

end Go.Proofs.Ytlgbhpphfimdbaa.Ev
