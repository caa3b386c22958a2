/- Literals of slices, and appends. -/
import Derived.Test.YtlgbhpphfimdbaaEv12
namespace Go.Proofs.Ytlgbhpphfimdbaa.Ev
set_option linter.unusedVariables false
set_option linter.unusedSimpArgs false

/-- Only blocks under the root r change. -/
def Only (w w' : World) (φ φ' : Col) (r : Nat) : Prop := ∀ b, b < w.heap.size → (∀ q, φ b ≠ some (r :: q)) → w'.heap[b]? = w.heap[b]? ∧ φ' b = φ b

theorem Only.keeps {w w' : World} {φ φ' : Col} {r : Nat} (h : Only w w' φ φ' r) : Keeps w w' φ φ' := fun b hb hlt =>
  let ⟨e1, e2⟩ := h b hlt (fun q hq => by rw [hb] at hq; cases hq); ⟨e1, e2.trans hb⟩
theorem Only.fore {w w' : World} {φ φ' : Col} {r : Nat} (h : Only w w' φ φ' r) : Fore w w' φ φ' := fun b hb hlt =>
  let ⟨e1, e2⟩ := h b hlt (fun q hq => by rw [hb] at hq; cases hq); ⟨e1, e2.trans hb⟩
theorem Only.moves {w w' : World} {φ φ' : Col} {r : Nat} (h : Only w w' φ φ' r) {r' : Nat} (hne : r' ≠ r) (p : Path) : Moves w w' φ φ' (r' :: p) (r' :: p) := fun b q hb hlt => by
  have hb' : φ b = some (r' :: (p ++ q)) := hb
  obtain ⟨e1, e2⟩ := h b hlt (fun q' hq => by rw [hb'] at hq; injection hq with hq; injection hq with hq _; exact hne hq)
  exact ⟨e1, e2.trans hb⟩

theorem row_block {k : K} {e : Nat} {w : World} {φ : Col} {p : Path} {xs : List k.T} {v : Value} (h : OwL (Ow k w φ) e k.sz w φ p xs v) (hn : 0 < xs.length) :
    φ (rowAddr v).block = some p ∧ (rowAddr v).block < w.heap.size := by
  obtain ⟨inner, ho, hc, _⟩ := h
  rcases ho.2 with ⟨rfl, hn'⟩ | ⟨g, cap, cur, fz, rfl, _, hg, _⟩
  · omega
  · exact ⟨hc g rfl, (Array.getElem?_eq_some_iff.1 hg).1⟩

/-- A row takes its place; only blocks under its root have changed. -/
theorem Rel.only {n : Nat} {w0 : World} {φ0 : Gh} {s : St} {a : Act} {m : Mem} (h : Rel n w0 φ0 s a m) {d : Nat} (hdn : d < n) (hf : ¬ Live s (.r d)) {row : Row} {v : Value} {w' : World} {φ' : Col}
    (hO : Only m.w w' m.φ φ' (2 * d)) (hs : m.w.heap.size ≤ w'.heap.size) (os : w'.os = m.w.os) (tp : w'.tape = m.w.tape) (ou : w'.output = m.w.output)
    (ho : OwL (Ow row.k w' φ') row.e row.k.sz w' φ' [2 * d] row.xs v) :
    Rel n w0 φ0 ((.r d, some (.r row)) :: s) a ⟨w', φ', upd m.ρ d v, m.β⟩ := by
  have hget : ∀ l, l ≠ .r d → St.get ((.r d, some (.r row)) :: s) l = s.get l := fun l hl => St.get_cons_ne (Ne.symm hl) _ _
  have hX : Ext s m ((.r d, some (.r row)) :: s) ⟨w', φ', upd m.ρ d v, m.β⟩ (Live s) := by
    refine ⟨hO.keeps, fun id r' hL hr => ?_, fun b c' _ hc => ⟨c', by rwa [hget _ (by simp)] at hc, rfl⟩, fun q i _ hi => by rwa [hget _ (by simp)] at hi⟩
    have hid : id ≠ d := fun e => hf (e ▸ hL)
    rw [hget _ (by simpa using hid)] at hr
    refine ⟨r', hr, upd_ne _ hid _, rfl, rfl, Nat.le_refl _, fun _ hn j v hc => ?_⟩
    obtain ⟨hcol, hlt⟩ := row_block (h.rw id r' hr) hn
    refine (World.cell?_of_block ?_).trans hc
    rw [add_block]
    exact (hO _ hlt (fun q hq => by rw [hcol] at hq; injection hq with hq; injection hq with hq _; omega)).1
  refine h.change (fun i => hget _ (by simp)) hX (fun id r hr => ?_) (fun b c hc => ?_) hO.fore hs os tp ou (fun id r h1 _ hg => by
    have hid : id ≠ d := by have := h.nn; omega
    exact ⟨⟨r, by rwa [hget _ (by simpa using hid)] at hg⟩, upd_ne _ hid _⟩) (fun b c _ _ hg => ⟨⟨c, by rwa [hget _ (by simp)] at hg⟩, rfl⟩)
  · by_cases hid : id = d
    · subst hid
      rw [St.get_cons_same] at hr
      injection hr with hr; injection hr with hr; subst hr
      simp only [upd_same]; exact ho
    · rw [hget _ (by simpa using hid)] at hr
      simp only [upd_ne _ hid]
      exact (h.rw id r hr).move (hO.moves (by omega) []) hO.keeps
  · rw [hget _ (by simp)] at hc
    obtain ⟨cs', h3, h4, h5, h6⟩ := h.bx b c hc
    have hlt : (m.β b).g < m.w.heap.size := (Array.getElem?_eq_some_iff.1 h6).1
    obtain ⟨e1, e2⟩ := hO _ hlt (fun q hq => by rw [h5] at hq; injection hq with hq; injection hq with hq _; omega)
    exact ⟨cs', All2.imp (fun l hm x hb => hb.ext (hX.sub fun q hq => ⟨.b b, .b c, hc, List.mem_flatMap.2 ⟨l, hm, hq⟩⟩)) h3, h4, e2.trans h5, e1.trans h6⟩

/-- Elements side by side, from number j on. -/
def OwEls (k : K) (w : World) (φ : Col) (p : Path) : Nat → List k.T → List Value → Prop
  | _, [], cs => cs = []
  | j, y :: ys, cs => ∃ c0 c1, cs = c0 ++ c1 ∧ Ow k w φ (p ++ [j]) y c0 ∧ OwEls k w φ p (j + 1) ys c1

theorem OwEls.len {k : K} {w : World} {φ : Col} {p : Path} : ∀ {j : Nat} {ys : List k.T} {cs : List Value}, OwEls k w φ p j ys cs → cs.length = ys.length * k.sz
  | _, [], _, h => by simp only [OwEls] at h; subst h; simp
  | _, _ :: ys, _, h => by
    obtain ⟨c0, c1, rfl, h0, h1⟩ := h
    rw [List.length_append, h0.len, h1.len, List.length_cons, Nat.succ_mul, Nat.add_comm]
theorem OwEls.get {k : K} {w : World} {φ : Col} {p : Path} : ∀ {j : Nat} {ys : List k.T} {cs : List Value}, OwEls k w φ p j ys cs → ∀ i (h : i < ys.length), Ow k w φ (p ++ [j + i]) ys[i] ((cs.drop (i * k.sz)).take k.sz)
  | _, [], _, _, i, hi => by simp at hi
  | j, y :: ys, _, h, i, hi => by
    obtain ⟨c0, c1, rfl, h0, h1⟩ := h
    cases i with
    | zero =>
      simp only [Nat.zero_mul, List.drop_zero, Nat.add_zero, List.getElem_cons_zero]
      rw [List.take_append_of_le_length (by rw [h0.len]; exact Nat.le_refl _), List.take_of_length_le (by rw [h0.len]; exact Nat.le_refl _)]
      exact h0
    | succ i =>
      have := OwEls.get h1 i (by simpa using hi)
      rw [Nat.succ_mul, Nat.add_comm (i * k.sz), ← h0.len, ← List.drop_drop, List.drop_left, h0.len]
      simp only [List.getElem_cons_succ]
      rw [Nat.add_right_comm, Nat.add_assoc] at this
      exact this
theorem OwEls.one {k : K} {w : World} {φ : Col} {p : Path} : ∀ {j : Nat} {ys : List k.T} {cs : List Value}, OwEls k w φ p j ys cs → ∀ u ∈ cs, u.oneCell' = true
  | _, [], _, h => by simp only [OwEls] at h; subst h; intro u hu; cases hu
  | _, _ :: ys, _, h => by
    obtain ⟨c0, c1, rfl, h0, h1⟩ := h
    intro u hu
    rcases List.mem_append.1 hu with hu | hu
    · exact h0.one u hu
    · exact h1.one u hu

/-- Each number once. -/
def nodupB : List Nat → Bool
  | [] => true
  | i :: l => !(l.any (Nat.beq i)) && nodupB l

theorem nodupB_cons {i : Nat} {l : List Nat} (h : nodupB (i :: l) = true) : i ∉ l ∧ nodupB l = true := by
  simp only [nodupB, Bool.and_eq_true, Bool.not_eq_true', List.any_eq_false] at h
  exact ⟨fun hi => h.1 i hi (Nat.beq_refl i), h.2⟩

def tgOf (p0 : Path) (mv : Mv) : Tg := mv.map fun v => (v.1, fun q => v.2.1.map fun p => p0 ++ p ++ q)

theorem tgOf_ids (p0 : Path) (mv : Mv) : (tgOf p0 mv).map (·.1) = mv.map (·.1) := by simp [tgOf]

theorem lookR_tgOf {p0 : Path} : ∀ {mv : Mv}, nodupB (mv.map (·.1)) = true → ∀ v ∈ mv, lookR (tgOf p0 mv) (2 * v.1) = some (fun q => v.2.1.map fun p => p0 ++ p ++ q)
  | [], _, v, hv => nomatch hv
  | u :: mv, hn, v, hv => by
    obtain ⟨h1, h2⟩ := nodupB_cons hn
    rcases List.mem_cons.1 hv with rfl | hv
    · simp [tgOf, lookR]
    · have hne : ¬ 2 * u.1 = 2 * v.1 := fun e => h1 (List.mem_map.2 ⟨v, hv, by show v.1 = u.1; omega⟩)
      simp only [tgOf, List.map_cons, lookR, if_neg hne]
      exact lookR_tgOf h2 v hv

theorem does_recol {w : World} {φ : Col} {p0 : Path} {mv : Mv} (hn : nodupB (mv.map (·.1)) = true) : Does w w φ (recol (tgOf p0 mv) φ) p0 mv := by
  intro v hv
  have hl := lookR_tgOf (p0 := p0) hn v hv
  cases hp : v.2.1 with
  | some p => exact recol_moves hl (fun q => by rw [hp]; rfl)
  | none => exact recol_frees hl (fun q => by rw [hp]; rfl)

/-- Behind a change that touches none of the blocks that were there. -/
theorem Does.then {w w' : World} {φ φ1 φ' : Col} {p0 : Path} {mv : Mv} (h : Does w w φ φ1 p0 mv) (hw : ∀ b, b < w.heap.size → w'.heap[b]? = w.heap[b]? ∧ φ' b = φ1 b) : Does w w' φ φ' p0 mv := by
  intro v hv
  have := h v hv
  cases hp : v.2.1 with
  | some p =>
    simp only [hp] at this ⊢
    exact fun b q hb hlt => ⟨(hw b hlt).1, (hw b hlt).2.trans (this b q hb hlt).2⟩
  | none =>
    simp only [hp] at this ⊢
    exact fun b q hb hlt => ⟨(hw b hlt).1, (hw b hlt).2.trans (this b q hb hlt).2⟩

def litEls (s : St) (k : K) : List (Nat × Operand) → Nat → Option (List k.T × Mv × Rds)
  | [], _ => some ([], [], [])
  | (i, x) :: ps, j => match Nat.beq i j, opnd s x with
    | true, some (v, rx) => match avL v with
      | some ls => match gath s k ls [j] with
        | some (y, [], mv) => match litEls s k ps (j + 1) with
          | some (ys, mvs, rds) => some (y :: ys, mv ++ mvs, rx ++ rds)
          | none => none
        | _ => none
      | none => none
    | _, _ => none

theorem litEls_reads {s : St} {k : K} : ∀ {ps : List (Nat × Operand)} {j : Nat} {ys : List k.T} {mv : Mv} {rds : Rds}, litEls s k ps j = some (ys, mv, rds) → Reads s (rds ++ mvR mv)
  | [], _, _, _, _, h => by simp only [litEls] at h; injection h with h; injection h with _ h; injection h with h1 h2; subst h1; subst h2; exact Reads.nil _
  | (i, x) :: ps, j, ys, mv, rds, h => by
    simp only [litEls] at h
    split at h
    · rename_i v rx _ ex
      split at h
      · rename_i ls el
        split at h
        · rename_i y mv1 eg
          split at h
          · rename_i ys' mvs rds' er
            injection h with h; injection h with h1 h; injection h with h2 h3
            subst h1; subst h2; subst h3
            have ih := Reads.app.1 (litEls_reads er)
            have hg := gath_reads eg
            simp only [mvR, List.map_append] at *
            exact Reads.app.2 ⟨Reads.app.2 ⟨opnd_reads ex, ih.1⟩, Reads.app.2 ⟨hg, ih.2⟩⟩
          · cases h
        · cases h
      · cases h
    · cases h

theorem litEls_ok {s s' : St} {n : Nat} {w0 : World} {φ0 : Gh} {a : Act} {m : Mem} (hr : Rel n w0 φ0 s' a m) {w' : World} {φ' : Col} (hk : Keeps m.w w' m.φ φ') (p0 : Path) {k : K} :
    ∀ {ps : List (Nat × Operand)} {j : Nat} {ys : List k.T} {mv : Mv} {rds : Rds}, litEls s k ps j = some (ys, mv, rds) → Reads s' (rds ++ mvR mv) → Does m.w w' m.φ φ' p0 mv →
      ∃ vs : List Value, (ps.map fun p => (p.1, a.eval p.2)) = (vs.zipIdx j).map (fun x => (x.2, x.1)) ∧ vs.length = ys.length ∧ (∀ v ∈ vs, v.cells.size = k.sz) ∧ OwEls k w' φ' p0 j ys (vs.flatMap fun v => v.cells.toList)
  | [], j, ys, mv, rds, h, hrd, hd => by
    simp only [litEls] at h; injection h with h; injection h with h1 h; subst h1
    exact ⟨[], rfl, rfl, fun v hv => (nomatch hv), rfl⟩
  | (i, x) :: ps, j, ys, mv, rds, h, hrd, hd => by
    simp only [litEls] at h
    split at h
    · rename_i v rx ei ex
      split at h
      · rename_i ls el
        split at h
        · rename_i y mv1 eg
          split at h
          · rename_i ys' mvs rds' er
            injection h with h; injection h with h1 h; injection h with h2 h3
            subst h1; subst h2; subst h3
            simp only [mvR, List.map_append] at hrd
            have hrdA := Reads.app.1 hrd
            have hrdB := Reads.app.1 hrdA.1
            have hrdC := Reads.app.1 hrdA.2
            obtain ⟨vs, e1, e2, e3, e4⟩ := litEls_ok hr hk p0 er (Reads.app.2 ⟨hrdB.2, hrdC.2⟩) (fun v hv => hd v (List.mem_append_right _ hv))
            obtain ⟨cs, hcs, hl⟩ := av_cells el (opnd_ok ex hr hrdB.1)
            obtain ⟨c0, c1, hcc, ho, hrest⟩ := gath_ok hr hk p0 eg hrdC.1 hl (fun v hv => hd v (List.mem_append_left _ hv))
            have hc1 : c1 = [] := by cases c1 with
              | nil => rfl
              | cons _ _ => exact hrest.elim
            subst hc1
            rw [List.append_nil] at hcc
            subst hcc
            have hcl : (a.eval x).cells.toList = cs := by rw [hcs]
            refine ⟨a.eval x :: vs, ?_, by simp [e2], fun u hu => ?_, ?_⟩
            · rw [List.map_cons, e1, List.zipIdx_cons, List.map_cons, Nat.eq_of_beq_eq_true ei]
            · rcases List.mem_cons.1 hu with rfl | hu
              · rw [hcs]; simpa using ho.len
              · exact e3 u hu
            · rw [List.flatMap_cons, hcl]
              exact ⟨cs, _, rfl, ho, e4⟩
          · cases h
        · cases h
      · cases h
    · cases h

def xLit {R : Type} (cfg : Cfg) (s : St) (d t len : Nat) (parts : Array (Nat × Operand)) (κ : Ke R) : Option R :=
  match cfg.el t with
  | some e => match cfg.ty e with
    | some ti => match litEls s ti.k parts.toList 0 with
      | some (ys, mv, rds) => match nodupB (mv.map (·.1)), Nat.beq ys.length len, Nat.ble (len * ti.k.sz) 16777216 with
        | true, true, true => κ ⟨rds ++ mvR mv, (.t d, some (.t (.one (.own d)))) :: (.r d, some (.r ⟨e, ti.k, ys, 0⟩)) :: (mv.map (·.1)).map (fun i => (Loc.r i, (none : Option LV))), [.r d]⟩
        | _, _, _ => none
      | none => none
    | none => none
  | none => none

theorem xLit_ok {R : Type} {P : Program} {cfg : Cfg} (hc : CfgOk P cfg) {s : St} {d t len : Nat} {parts : Array (Nat × Operand)} {κ : Ke R} {r : R} (h : xLit cfg s d t len parts κ = some r) : OutE P s (.buildSlice t len parts) d κ r := by
  unfold xLit at h
  split at h
  · rename_i e et
    split at h
    · rename_i ti eti
      split at h
      · rename_i ys mv rds el
        split at h
        · rename_i hnd hlen hsm
          have hlen := Nat.eq_of_beq_eq_true hlen
          have hsm := Nat.le_of_ble_eq_true hsm
          refine ⟨_, h, litEls_reads el, fun n o ho hdst hd w0 φ0 s' a m hr hrd hnew next Q hn => ?_⟩
          obtain ⟨f, z, hi, hs, hb, hz, hzc, _⟩ := hc.info eti
          have hzs : z.cells.size = ti.k.sz := by rw [← Array.length_toList, hzc, zc_len]
          have hdo := does_recol (w := m.w) (φ := m.φ) (p0 := [2 * d]) hnd
          have hw : ∀ (oo : Obj) (b : Nat), b < m.w.heap.size → (m.w.alloc oo).heap[b]? = m.w.heap[b]? ∧ upd (recol (tgOf [2 * d] mv) m.φ) m.w.heap.size (some [2 * d]) b = recol (tgOf [2 * d] mv) m.φ b :=
            fun oo b hb => ⟨alloc_old _ _ _ hb, upd_ne _ (by omega) _⟩
          have hkeep : ∀ oo, Keeps m.w (m.w.alloc oo) m.φ (upd (recol (tgOf [2 * d] mv) m.φ) m.w.heap.size (some [2 * d])) :=
            fun oo b hb hlt => ⟨(hw oo b hlt).1, (hw oo b hlt).2.trans (recol_keeps m.w _ _ b hb hlt).2⟩
          have hex : ∃ vs : List Value, (parts.toList.map fun p => (p.1, a.eval p.2)) = (vs.zipIdx 0).map (fun x => (x.2, x.1)) ∧ vs.length = ys.length ∧ (∀ v ∈ vs, v.cells.size = ti.k.sz) ∧
              ∀ oo, OwEls ti.k (m.w.alloc oo) (upd (recol (tgOf [2 * d] mv) m.φ) m.w.heap.size (some [2 * d])) [2 * d] 0 ys (vs.flatMap fun v => v.cells.toList) := by
            obtain ⟨vs, e1, e2, e3, _⟩ := litEls_ok hr (hkeep (.cells #[] 0)) [2 * d] el hrd (hdo.then (hw (.cells #[] 0)))
            refine ⟨vs, e1, e2, e3, fun oo => ?_⟩
            obtain ⟨vs', e1', e2', e3', e4'⟩ := litEls_ok hr (hkeep oo) [2 * d] el hrd (hdo.then (hw oo))
            have : vs' = vs := by
              have h1 := congrArg (List.map Prod.snd) (e1'.symm.trans e1)
              simpa [List.map_map, Function.comp_def] using h1
            exact this ▸ e4'
          obtain ⟨vs, e1, e2, e3, e4⟩ := hex
          have hrun : (execOp a.eval o).run P m.w = .ok (.value (.slice (some ⟨m.w.heap.size, 0, none⟩) len len)) (m.w.alloc (.cells (vs.flatMap fun v => v.cells.toList).toArray e)) := by
            by_cases hz0 : len = 0
            · have hys : ys = [] := List.eq_nil_of_length_eq_zero (by omega)
              have hvs : vs = [] := List.eq_nil_of_length_eq_zero (by rw [e2, hys]; rfl)
              subst hvs
              have hp : parts = #[] := by
                have : parts.toList.map (fun p => (p.1, a.eval p.2)) = [] := e1
                have := List.map_eq_nil_iff.1 this
                exact Array.toList_eq_nil_iff.1 this
              subst hz0
              simp [execOp, ho, Sem.run_bind, Instr.buildSlice, run_und (hc.el et), run_size hi, hp, Instr.fill, newRow, Array.range_zero']
            · have hpos : 0 < ti.k.sz := ti.k.sz_pos
              have hf := Great.fill_whole hpos vs ((Array.range (len * ti.k.sz)).map (z.cells[· % z.cells.size]!)) e3 (by simp [e2, hlen])
              have hparts : (parts.map fun (i, x) => (i, a.eval x)).toList = (vs.zipIdx 0).map (fun x => (x.2, x.1)) := by
                rw [← e1]; simp
              have := run_buildSlice (P := P) m.w t e len (parts.map fun (i, x) => (i, a.eval x)) _ f z (hc.el et) hi hz (by rw [hs]; omega) (by rw [hs]; exact Nat.ne_of_gt (Nat.mul_pos (by omega) hpos)) (by rw [hs, hparts]; exact hf)
              simp [execOp, ho, Sem.run_bind, this]
          have h1 := hr.drop (tgOf [2 * d] mv)
          rw [tgOf_ids] at h1
          have hnl : ¬ Live ((mv.map (·.1)).map (fun i => (Loc.r i, (none : Option LV))) ++ s') (.r d) := by
            rintro ⟨l', lv, hg, hm⟩
            refine hnew (.r d) List.mem_cons_self ⟨l', lv, ?_, hm⟩
            by_cases hh : ∃ i ∈ mv.map (·.1), l' = .r i
            · obtain ⟨i, hi', rfl⟩ := hh
              rw [get_tomb_none hi'] at hg; cases hg
            · rw [get_tomb fun i hi' e => hh ⟨i, hi', e⟩] at hg; exact hg
          have h2 := h1.newRow (d := d) hd hnl (row := ⟨e, ti.k, ys, 0⟩) (o := .cells (vs.flatMap fun v => v.cells.toList).toArray e) (v := .slice (some ⟨m.w.heap.size, 0, none⟩) len len) (by
            have hE := e4 (.cells (vs.flatMap fun v => v.cells.toList).toArray e)
            have hl := hE.len
            refine ⟨vs.flatMap fun v => v.cells.toList, ?_, fun g hg => ?_, fun j hj => ?_⟩
            · have := owns_of (World.ownsRow_lit (e := e) (size := ti.k.sz) m.w (vs.flatMap fun v => v.cells.toList).toArray len (Nat.zero_le _) (by simp only [maxLen]; have := Nat.le_mul_of_pos_right len ti.k.sz_pos; omega) (by simp only [List.size_toArray]; rw [hl, hlen]))
              rw [← hlen] at this ⊢
              exact this
            · simp only [Value.ownBlock] at hg
              injection hg with hg; subst hg
              simp [upd_same]
            · have := hE.get j hj
              rw [Nat.zero_add] at this
              exact this)
          have h3 := h2.put (v := .one (.own d)) (x := .slice (some ⟨m.w.heap.size, 0, none⟩) len len) hd ⟨rfl, fun r _ => by simp [upd_same]⟩
          simp only [Oper.wp, hrun, Oper.upon, hdst]
          exact hn _ _ h3
        · cases h
      · cases h
    · cases h
  · cases h

end Go.Proofs.Ytlgbhpphfimdbaa.Ev
