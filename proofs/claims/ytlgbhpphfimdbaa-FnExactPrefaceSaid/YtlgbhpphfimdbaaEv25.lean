/- Into a call: all arguments; out of it: rows and cells. -/
import Derived.Test.YtlgbhpphfimdbaaEv24
namespace Go.Proofs.Ytlgbhpphfimdbaa.Ev
set_option linter.unusedVariables false
set_option linter.unusedSimpArgs false

/-- A variable that is handed over: its box, the first cell, how many, the parameter's place. -/
structure Bx where
  b : Nat
  off : Nat
  sz : Nat
  i : Nat

def avG : Bool → K → AV → Option (List Lf)
  | true, _, .agg ls => some ls
  | false, k, .one l => match Nat.beq k.sz 1 with
    | true => some [l]
    | false => none
  | _, _, _ => none

theorem avG_ok {g : Bool} {k : K} {v : AV} {ls : List Lf} (h : avG g k v = some ls) {s : St} {m : Mem} {x : Value} (hv : AVC s m v x) : ∃ cs, x = toV g cs ∧ All2 (LfC s m) ls cs ∧ (g = true ∨ k.sz = 1) := by
  unfold avG at h
  split at h
  · injection h with h; subst h
    obtain ⟨cs, rfl, hc⟩ := hv
    exact ⟨cs, rfl, hc, .inl rfl⟩
  · split at h
    · rename_i hb
      injection h with h; subst h
      exact ⟨[x], rfl, ⟨hv, trivial⟩, .inr (Nat.eq_of_beq_eq_true hb)⟩
    · cases h
  · cases h

def ptrOf : AV → Option (Nat × Nat)
  | .one (.ptr b off) => some (b, off)
  | _ => none

theorem ptrOf_eq {v : AV} {b off : Nat} (h : ptrOf v = some (b, off)) : v = .one (.ptr b off) := by
  unfold ptrOf at h
  split at h
  · injection h with h; injection h with h1 h2; subst h1; subst h2; rfl
  · cases h

def gArgs (cfg : Cfg) (s : St) : Nat → (ps : List PK) → List AV → Option (Ts (ins ps) × List Hd × List Nat × List Bx × Rds)
  | _, [], [] => some ((), [], [], [], [])
  | i, .val g k kp :: ps, v :: vs => match avG g k v with
    | some ls => match gv cfg s kp (pR i) k ls with
      | some (x, [], hd, bo, rds) => match gArgs cfg s (i + 1) ps vs with
        | some (y, hd', bo', bx, rds') => some ((x, y), hd ++ hd', bo ++ bo', bx, rds ++ rds')
        | none => none
      | _ => none
    | none => none
  | i, .ptr k :: ps, v :: vs => match ptrOf v with
    | some (b, off) => match s.getB b with
      | some c => match gv cfg s false (pR i) k ((c.drop off).take k.sz) with
        | some (x, [], hd, bo, rds) => match gArgs cfg s (i + 1) ps vs with
          | some (y, hd', bo', bx, rds') => some ((x, y), hd ++ hd', bo ++ bo', ⟨b, off, k.sz, i⟩ :: bx, ((.b b, .b c) :: rds) ++ rds')
          | none => none
        | _ => none
      | none => none
    | none => none
  | _, _, _ => none

theorem gArgs_reads {cfg : Cfg} {s : St} : ∀ {ps : List PK} {i : Nat} {vs : List AV} {x : Ts (ins ps)} {hd : List Hd} {bo : List Nat} {bx : List Bx} {rds : Rds}, gArgs cfg s i ps vs = some (x, hd, bo, bx, rds) → Reads s rds
  | [], i, vs, x, hd, bo, bx, rds, h => by
    cases vs with
    | nil => simp only [gArgs] at h; injection h with h; injection h with _ h; injection h with _ h; injection h with _ h; injection h with _ h; subst h; exact Reads.nil _
    | cons _ _ => simp [gArgs] at h
  | .val g k kp :: ps, i, vs, x, hd, bo, bx, rds, h => by
    cases vs with
    | nil => simp [gArgs] at h
    | cons v vs =>
      simp only [gArgs] at h
      split at h
      · split at h
        · rename_i e1
          split at h
          · rename_i e2
            injection h with h; injection h with _ h; injection h with _ h; injection h with _ h; injection h with _ h; subst h
            exact Reads.app.2 ⟨gv_reads e1, gArgs_reads e2⟩
          · cases h
        · cases h
      · cases h
  | .ptr k :: ps, i, vs, x, hd, bo, bx, rds, h => by
    cases vs with
    | nil => simp [gArgs] at h
    | cons v vs =>
      simp only [gArgs] at h
      split at h
      · rename_i b off epv
        split at h
        · rename_i c hc
          split at h
          · rename_i e1
            split at h
            · rename_i e2
              injection h with h; injection h with _ h; injection h with _ h; injection h with _ h; injection h with _ h; subst h
              refine Reads.app.2 ⟨fun p hp => ?_, gArgs_reads e2⟩
              rcases List.mem_cons.1 hp with rfl | hp
              · exact St.getB_some.1 hc
              · exact gv_reads e1 p hp
            · cases h
          · cases h
        · cases h
      · cases h

def cellsAt (w : World) (g : Nat) : List Value := match w.heap[g]? with
  | some (.cells a _ _) => a.toList
  | _ => []

/-- The place of a variable that is handed over. -/
def plOf (m : Mem) (x : Bx) : Plc :=
  ⟨(m.β x.b).g, (m.β x.b).t, (cellsAt m.w (m.β x.b).g).take ((m.β x.b).pre.length + x.off), (cellsAt m.w (m.β x.b).g).drop ((m.β x.b).pre.length + x.off + x.sz)⟩

theorem plOf_eq {m : Mem} {x : Bx} {cs : List Value} {ty : TypeId} (hg : m.w.heap[(m.β x.b).g]? = some (.cells ((m.β x.b).pre ++ cs ++ (m.β x.b).post).toArray ty (0, 0))) (h : x.off + x.sz ≤ cs.length) :
    plOf m x = ⟨(m.β x.b).g, (m.β x.b).t, (m.β x.b).pre ++ cs.take x.off, cs.drop (x.off + x.sz) ++ (m.β x.b).post⟩ := by
  have hc : cellsAt m.w (m.β x.b).g = (m.β x.b).pre ++ cs ++ (m.β x.b).post := by simp only [cellsAt, hg]
  unfold plOf
  rw [hc]
  congr 1
  · rw [List.append_assoc, List.take_length_add_append, List.take_append_of_le_length (by omega)]
  · rw [List.append_assoc, Nat.add_assoc, List.drop_length_add_append, List.drop_append_of_le_length (by omega)]

theorem gArgs_ok {cfg : Cfg} {s s' : St} {n : Nat} {w0 : World} {φ0 : Gh} {a : Act} {m : Mem} (hr : Rel n w0 φ0 s' a m) {φ' : Col} (hk : Keeps m.w m.w m.φ φ') {pls : Nat → Plc} :
    ∀ {ps : List PK} {i : Nat} {vs : List AV} {x : Ts (ins ps)} {hd : List Hd} {bo : List Nat} {bx : List Bx} {rds : Rds}, gArgs cfg s i ps vs = some (x, hd, bo, bx, rds) → Reads s' rds → CalOk m φ' hd bo →
      (∀ y ∈ bx, Moves m.w m.w m.φ φ' [2 * y.b + 1] [2 * pB y.i + 1]) → (∀ y ∈ bx, pls y.i = plOf m y) → ∀ {vals : List Value}, All2 (AVC s' m) vs vals → ArgsC m.w φ' pls i ps x vals
  | [], i, vs, x, hd, bo, bx, rds, h, hrd, hc, hbx, hpl, vals, hv => by
    cases vs with
    | nil => cases vals with
      | nil => rfl
      | cons _ _ => exact hv.elim
    | cons _ _ => simp [gArgs] at h
  | .val g k kp :: ps, i, vs, x, hd, bo, bx, rds, h, hrd, hc, hbx, hpl, vals, hv => by
    cases vs with
    | nil => simp [gArgs] at h
    | cons v vs =>
      cases vals with
      | nil => exact hv.elim
      | cons u vals =>
        simp only [gArgs] at h
        split at h
        · rename_i ls els
          split at h
          · rename_i e1
            split at h
            · rename_i e2
              injection h with h; injection h with h1 h; injection h with h2 h; injection h with h3 h; injection h with h4 h5; subst h1; subst h2; subst h3; subst h4; subst h5
              obtain ⟨hrd1, hrd2⟩ := Reads.app.1 hrd
              obtain ⟨cs, rfl, hcs, hg⟩ := avG_ok els hv.1
              obtain ⟨v0, v1, rfl, hl, hrest⟩ := gv_ok hr hk e1 hrd1 hc.left hcs
              have : v1 = [] := by cases v1 with
                | nil => rfl
                | cons _ _ => exact hrest.elim
              subst this
              rw [List.append_nil]
              exact ⟨v0, vals, rfl, hl, hg, gArgs_ok hr hk e2 hrd2 hc.right hbx hpl hv.2⟩
            · cases h
          · cases h
        · cases h
  | .ptr k :: ps, i, vs, x, hd, bo, bx, rds, h, hrd, hc, hbx, hpl, vals, hv => by
    cases vs with
    | nil => simp [gArgs] at h
    | cons v vs =>
      cases vals with
      | nil => exact hv.elim
      | cons u vals =>
        simp only [gArgs] at h
        split at h
        · rename_i b off epv
          split at h
          · rename_i c hcb
            split at h
            · rename_i e1
              split at h
              · rename_i e2
                injection h with h; injection h with h1 h; injection h with h2 h; injection h with h3 h; injection h with h4 h5; subst h1; subst h2; subst h3; subst h4; subst h5
                obtain ⟨hrd1, hrd2⟩ := Reads.app.1 hrd
                have hgb := hrd1 (.b b, .b c) List.mem_cons_self
                obtain ⟨cs, hcs, hone, hcol, hg⟩ := hr.bx b c hgb
                have hp := (ptrOf_eq epv ▸ hv.1 : AVC s' m (.one (.ptr b off)) u).2 c hgb
                obtain ⟨v0, v1, ev, hl, hrest⟩ := gv_ok hr hk e1 (fun p hp => hrd1 p (List.mem_cons_of_mem _ hp)) hc.left (All2.take k.sz (All2.drop off hcs))
                have : v1 = [] := by cases v1 with
                  | nil => rfl
                  | cons _ _ => exact hrest.elim
                subst this
                rw [List.append_nil] at ev
                have hlen := hl.len
                rw [← ev, List.length_take, List.length_drop] at hlen
                have hpos := k.sz_pos
                have hfit : off + k.sz ≤ cs.length := by omega
                have hpi := hpl ⟨b, off, k.sz, i⟩ List.mem_cons_self
                have hpe := plOf_eq (m := m) (x := ⟨b, off, k.sz, i⟩) (cs := cs) hg hfit
                simp only at hpi
                rw [hpe] at hpi
                refine ⟨v0, vals, ?_, ⟨?_, ?_⟩, hl, gArgs_ok hr hk e2 hrd2 hc.right (fun y hy => hbx y (List.mem_cons_of_mem _ hy)) (fun y hy => hpl y (List.mem_cons_of_mem _ hy)) hv.2⟩
                · rw [hp, hpi]; simp only [List.length_append, List.length_take]
                  rw [show min off cs.length = off by omega]
                · rw [hpi]
                  simp only
                  rw [hg, ← ev]
                  congr 2
                  simp only [List.append_assoc]
                  congr 2
                  rw [← List.append_assoc (List.take k.sz _), ← List.drop_drop, List.take_append_drop, ← List.append_assoc, List.take_append_drop]
                · rw [hpi]
                  have hlt : (m.β b).g < m.w.heap.size := (Array.getElem?_eq_some_iff.1 hg).1
                  exact (hbx ⟨b, off, k.sz, i⟩ List.mem_cons_self (m.β b).g [] hcol hlt).2
              · cases h
            · cases h
          · cases h
        · cases h

end Go.Proofs.Ytlgbhpphfimdbaa.Ev
