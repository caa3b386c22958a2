/- Evaluating an append. -/
import Derived.Test.YtlgbhpphfimdbaaEv14
namespace Go.Proofs.Ytlgbhpphfimdbaa.Ev
set_option linter.unusedVariables false
set_option linter.unusedSimpArgs false

theorem flat_keep : ∀ {k : K} {w w' : World} {φ φ' : Col} {p p' : Path} {x : k.T} {cs : List Value}, k.flat = true → Ow k w φ p x cs → Keeps w w' φ φ' → Ow k w' φ' p' x cs
  | .int _, _, _, _, _, _, _, _, _, _, h, _ => h
  | .bool, _, _, _, _, _, _, _, _, _, h, _ => h
  | .str, _, _, _, _, _, _, _, _, _, h, _ => h
  | .rs _ k, _, _, _, _, _, _, _, _, _, h, hk => RoL.keep h k.sz_pos hk fun _ _ hr => Ro.keep hr hk
  | .sl _ _, _, _, _, _, _, _, _, _, hf, _, _ => by simp [K.flat] at hf
  | .pair a b, _, _, _, _, _, _, _, _, hf, h, hk => by
    simp only [K.flat, Bool.and_eq_true] at hf
    obtain ⟨c0, c1, rfl, h0, h1⟩ := h
    exact ⟨c0, c1, rfl, flat_keep hf.1 h0 hk, flat_keep hf.2 h1 hk⟩

/-- The row that is appended to: its number (none: nil), what it holds, what was read. -/
def destR (cfg : Cfg) (s : St) (e : Nat) (ti : TyI) : Lf → Option (Option Nat × Row × Rds)
  | .nil => some (none, ⟨e, ti.k, [], 0⟩, [])
  | .own id => match s.getR id with
    | some r => some (some id, r, [(.r id, .r r)])
    | none => none
  | .vw id 0 hi => match s.getR id with
    | some r => some (some id, ⟨r.e, r.k, r.xs.take hi, 0⟩, [(.r id, .r r)])
    | none => none
  | _ => none

theorem destR_reads {cfg : Cfg} {s : St} {e : Nat} {ti : TyI} {l : Lf} {o : Option Nat} {row : Row} {rds : Rds} (h : destR cfg s e ti l = some (o, row, rds)) : Reads s rds := by
  cases l with
  | nil => simp only [destR] at h; injection h with h; injection h with _ h; injection h with _ h; subst h; exact Reads.nil _
  | own id =>
    simp only [destR] at h
    split at h
    · rename_i r er
      injection h with h; injection h with _ h; injection h with _ h; subst h
      intro p hp; rw [List.mem_singleton.1 hp]; exact St.getR_some.1 er
    · cases h
  | vw id lo hi =>
    cases lo with
    | succ lo => simp [destR] at h
    | zero =>
      simp only [destR] at h
      split at h
      · rename_i r er
        injection h with h; injection h with _ h; injection h with _ h; subst h
        intro p hp; rw [List.mem_singleton.1 hp]; exact St.getR_some.1 er
      · cases h
  | int k n => simp [destR] at h
  | bool b => simp [destR] at h
  | str x => simp [destR] at h
  | ro e k xs => simp [destR] at h
  | sub id q off ver => simp [destR] at h
  | ptr b off => simp [destR] at h
  | ept id q off => simp [destR] at h
  | rpt k x off => simp [destR] at h
  | fn f => simp [destR] at h
  | anyb => simp [destR] at h

def destTg (d : Nat) : Option Nat → Tg
  | none => []
  | some id => [(id, fun q => some (2 * d :: q))]

theorem destR_ok {cfg : Cfg} {s s' : St} {e : Nat} {ti : TyI} {l : Lf} {o : Option Nat} {row : Row} {rds : Rds} (h : destR cfg s e ti l = some (o, row, rds)) {n : Nat} {w0 : World} {φ0 : Gh} {a : Act} {m : Mem}
    (hr : Rel n w0 φ0 s' a m) (hrd : Reads s' rds) {v : Value} (hv : LfC s' m l v) (d : Nat) {φ' : Col} (hk : Keeps m.w m.w m.φ φ') (hm : ∀ id, o = some id → Moves m.w m.w m.φ φ' [2 * id] [2 * d]) :
    OwL (Ow row.k m.w φ') row.e row.k.sz m.w φ' [2 * d] row.xs v := by
  cases l with
  | nil =>
    simp only [destR] at h; injection h with h; injection h with h1 h; injection h with h2 _; subst h2
    simp only [LfC] at hv; subst hv
    exact ⟨[], owns_nil _ _ _ _, fun g hg => by simp [Value.ownBlock] at hg, fun i h => by simp at h⟩
  | own id =>
    simp only [destR] at h
    split at h
    · rename_i r er
      injection h with h; injection h with h1 h; injection h with h2 h3; subst h1; subst h2; subst h3
      have hg := hrd _ List.mem_cons_self
      rw [hv.2 r hg]
      exact (hr.rw id r hg).move (hm id rfl) hk
    · cases h
  | vw id lo hi =>
    cases lo with
    | succ lo => simp [destR] at h
    | zero =>
      simp only [destR] at h
      split at h
      · rename_i r er
        injection h with h; injection h with h1 h; injection h with h2 h3; subst h1; subst h2; subst h3
        have hg := hrd _ List.mem_cons_self
        obtain ⟨_, hh, hv2⟩ := hv.2 r hg
        rw [hv2]
        exact take_ow ((hr.rw id r hg).move (hm id rfl) hk) hh
      · cases h
  | int k n => simp [destR] at h
  | bool b => simp [destR] at h
  | str x => simp [destR] at h
  | ro e k xs => simp [destR] at h
  | sub id q off ver => simp [destR] at h
  | ptr b off => simp [destR] at h
  | ept id q off => simp [destR] at h
  | rpt k x off => simp [destR] at h
  | fn f => simp [destR] at h
  | anyb => simp [destR] at h

/-- What is appended: its elements at the row's kind; what was read; the row that is used up, if its elements have rows of their own. -/
def srcR (cfg : Cfg) (s : St) (t : Nat) (k : K) (l : Lf) : Option (List k.T × Rds × Option Nat) :=
  match k.flat with
  | true => match content cfg s t l with
    | some (sl, rds) => match castL sl.k k sl.xs with
      | some ys => some (ys, rds, none)
      | none => none
    | none => none
  | false => match l with
    | .own id => match s.getR id with
      | some r => match castL r.k k r.xs with
        | some ys => some (ys, [(.r id, .r r)], some id)
        | none => none
      | none => none
    | _ => none

def srcTg (d n : Nat) : Option Nat → Tg
  | none => []
  | some id => [(id, fun q => match q with
    | i :: q => some (2 * d :: (n + i) :: q)
    | [] => none)]

theorem srcR_reads {cfg : Cfg} {s : St} {t : Nat} {k : K} {l : Lf} {ys : List k.T} {rds : Rds} {o : Option Nat} (h : srcR cfg s t k l = some (ys, rds, o)) : Reads s rds := by
  unfold srcR at h
  split at h
  · split at h
    · rename_i sl rds' ec
      split at h
      · injection h with h; injection h with _ h; injection h with h _; subst h; exact content_reads ec
      · cases h
    · cases h
  · split at h
    · split at h
      · rename_i r er
        split at h
        · injection h with h; injection h with _ h; injection h with h _; subst h
          intro p hp; rw [List.mem_singleton.1 hp]; exact St.getR_some.1 er
        · cases h
      · cases h
    · cases h

theorem srcR_ok {cfg : Cfg} {s s' : St} {t : Nat} {k : K} {l : Lf} {ys : List k.T} {rds : Rds} {o : Option Nat} (h : srcR cfg s t k l = some (ys, rds, o)) {n : Nat} {w0 : World} {φ0 : Gh} {a : Act} {m : Mem}
    (hr : Rel n w0 φ0 s' a m) (hrd : Reads s' rds) {v : Value} (hv : LfC s' m l v) (d j : Nat) {φ' : Col} (hk : Keeps m.w m.w m.φ φ')
    (hm : ∀ id, o = some id → ∀ i, Moves m.w m.w m.φ φ' [2 * id, i] [2 * d, j + i]) :
    Now (k := k) (fun i => Ow k m.w φ' ([2 * d] ++ [j + i])) m.w ys v := by
  unfold srcR at h
  split at h
  · rename_i hf
    split at h
    · rename_i sl rds' ec
      split at h
      · rename_i ys' hcast
        injection h with h; injection h with h1 h; injection h with h2 h3; subst h1; subst h2; subst h3
        obtain ⟨ek, rfl⟩ := castL_some hcast
        subst ek
        have hnow := content_now ec hf hr hrd hv
        exact hnow.imp fun i x ds hx => flat_keep hf hx hk
      · cases h
    · cases h
  · split at h
    · rename_i id
      split at h
      · rename_i r er
        split at h
        · rename_i ys' hcast
          injection h with h; injection h with h1 h; injection h with h2 h3; subst h1; subst h2; subst h3
          obtain ⟨ek, rfl⟩ := castL_some hcast
          subst ek
          have hg := hrd _ List.mem_cons_self
          rw [hv.2 r hg]
          exact (hr.rw id r hg).now.imp fun i x ds hx => Ow.move hx (hm id rfl i) hk
        · cases h
      · cases h
    · cases h


def apart : Option Nat → Option Nat → Bool
  | some a, some b => !(Nat.beq a b)
  | _, _ => true

def oid : Option Nat → List Nat
  | none => []
  | some i => [i]

def xApp {R : Type} (cfg : Cfg) (s : St) (d t t' : Nat) (x y : Operand) (κ : Ke R) : Option R :=
  match opnd s x, opnd s y, cfg.el t, Nat.beq t t' with
  | some (.one lx, rx), some (.one ly, ry), some e, true => match cfg.ty e with
    | some ti => match destR cfg s e ti lx with
      | some (o1, row, r1) => match srcR cfg s t row.k ly with
        | some (ys, r2, o2) => match Nat.beq row.e e, Nat.beq ti.k.sz row.k.sz, apart o1 o2 with
          | true, true, true => bif decide (row.xs.length + ys.length ≤ 9223372036854775807) then bif decide ((row.xs.length + ys.length) * ti.bytes ≤ 140737488355328) then
              κ ⟨rx ++ ry ++ (r1 ++ r2), (.t d, some (.t (.one (.own d)))) :: (.r d, some (.r ⟨e, row.k, row.xs ++ ys, 0⟩)) :: (oid o1 ++ oid o2).map (fun i => (Loc.r i, (none : Option LV))), [.r d]⟩ else none else none
          | _, _, _ => none
        | none => none
      | none => none
    | none => none
  | _, _, _, _ => none

theorem xApp_ok {R : Type} {P : Program} {cfg : Cfg} (hc : CfgOk P cfg) {s : St} {d t t' : Nat} {x y : Operand} {κ : Ke R} {r : R} (h : xApp cfg s d t t' x y κ = some r) :
    OutE P s (.call { callee := .builtin .append, args := #[x, y], argTypes := #[t, t'] }) d κ r := by
  unfold xApp at h
  split at h
  · rename_i lx rx ly ry e ex ey et htt
    have htt := Nat.eq_of_beq_eq_true htt
    subst htt
    split at h
    · rename_i ti eti
      split at h
      · rename_i o1 row r1 e1
        split at h
        · rename_i ys r2 o2 e2
          split at h
          · rename_i he hsz hap
            have he := Nat.eq_of_beq_eq_true he
            have hsz := Nat.eq_of_beq_eq_true hsz
            subst he
            obtain ⟨h63, h⟩ := bif_some h
            obtain ⟨hby, h⟩ := bif_some h
            have h63 := of_decide_eq_true h63
            have hby := of_decide_eq_true hby
            refine ⟨_, h, Reads.app.2 ⟨Reads.app.2 ⟨opnd_reads ex, opnd_reads ey⟩, Reads.app.2 ⟨destR_reads e1, srcR_reads e2⟩⟩, fun n o ho hdst hd w0 φ0 s' a m hr hrd hnew next Q hn => ?_⟩
            have hrdA := Reads.app.1 (Reads.app.1 hrd).1
            have hrdB := Reads.app.1 (Reads.app.1 hrd).2
            obtain ⟨f, z, hi, hs, hb, hz, hzc, _⟩ := hc.info eti
            have hzs : z.cells.size = row.k.sz := by rw [← Array.length_toList, hzc, zc_len, hsz]
            have hids : (destTg d o1 ++ srcTg d row.xs.length o2).map (·.1) = oid o1 ++ oid o2 := by cases o1 <;> cases o2 <;> rfl
            have h1 := hr.drop (destTg d o1 ++ srcTg d row.xs.length o2)
            rw [hids] at h1
            have hk := recol_keeps m.w (destTg d o1 ++ srcTg d row.xs.length o2) m.φ
            have hdest := destR_ok e1 hr hrdB.1 (opnd_ok ex hr hrdA.1) d hk (fun id hid => by
              subst hid
              exact recol_moves (f := fun q => some (2 * d :: q)) (by simp [destTg, lookR]) (fun q => rfl))
            have hsrc := srcR_ok e2 hr hrdB.2 (opnd_ok ey hr hrdA.2) d row.xs.length hk (fun id hid i => by
              subst hid
              refine recol_moves (p := [i]) (f := fun q => match q with
                | i :: q => some (2 * d :: (row.xs.length + i) :: q)
                | [] => none) ?_ (fun q => rfl)
              cases o1 with
              | none => simp [destTg, srcTg, lookR]
              | some id1 =>
                have hne : ¬ id1 = id := by
                  simp only [apart, Bool.not_eq_true'] at hap
                  intro e; rw [e, Nat.beq_refl] at hap; cases hap
                have hne2 : ¬ 2 * id1 = 2 * id := by omega
                simp only [destTg, srcTg, List.cons_append, List.nil_append, lookR, if_neg hne2, if_true])
            obtain ⟨A, c, news, hyv, hnl, hcell, hA, hnew2⟩ := hsrc.cells
            obtain ⟨inner, hown, hcol, hels⟩ := hdest
            obtain ⟨v', w', hrun, hown', hg, hblk⟩ := app_run (P := P) (ty := o.type) (hc.el et) hi hz (hs.trans hsz) hb hzs row.k.sz_pos hown hnl hcell (fun hA0 => by rw [hA hA0]; rfl) hnew2.one (by simp only [maxLen]; omega) hby
            have hrunO : (execOp a.eval o).run P m.w = .ok (.value v') w' := by
              simp [execOp, ho, hyv, resolve, invoke, builtin, Sem.run_bind]
              rw [hrun]; rfl
            let φ1 := recol (destTg d o1 ++ srcTg d row.xs.length o2) m.φ
            let φ2 : Col := fun b => if v'.ownBlock = some b then some [2 * d] else φ1 b
            have hsame : ∀ b, b < m.w.heap.size → φ1 b ≠ some [2 * d] → w'.heap[b]? = m.w.heap[b]? ∧ φ2 b = φ1 b := by
              intro b hb hne
              have hvb : some b ≠ (a.eval x).ownBlock := fun e => hne (hcol b e.symm)
              refine ⟨hg.block b hb hvb, if_neg fun e => ?_⟩
              rcases hblk with h' | h'
              · rw [h'] at e; exact hvb e.symm
              · rw [h'] at e; injection e with e; omega
            have hO : Only m.w w' φ1 φ2 (2 * d) := fun b hb hq => hsame b hb (hq [])
            have hnl : ¬ Live ((oid o1 ++ oid o2).map (fun i => (Loc.r i, (none : Option LV))) ++ s') (.r d) := by
              rintro ⟨l', lv, hg', hm'⟩
              refine hnew (.r d) List.mem_cons_self ⟨l', lv, ?_, hm'⟩
              by_cases hh : ∃ i ∈ oid o1 ++ oid o2, l' = .r i
              · obtain ⟨i, hi', rfl⟩ := hh
                rw [get_tomb_none hi'] at hg'; cases hg'
              · rw [get_tomb fun i hi' e => hh ⟨i, hi', e⟩] at hg'; exact hg'
            have hmv : ∀ j, Moves m.w w' φ1 φ2 ([2 * d] ++ [j]) ([2 * d] ++ [j]) := fun j b q hb hlt => by
              obtain ⟨g1, g2⟩ := hsame b hlt (by rw [hb]; simp)
              exact ⟨g1, g2.trans hb⟩
            have hinl := hown.1
            have h2 := h1.only (d := d) hd hnl (row := ⟨row.e, row.k, row.xs ++ ys, 0⟩) (v := v') (w' := w') (φ' := φ2) hO hg.size hg.os hg.tape hg.output (by
              refine ⟨inner ++ news, by rw [List.length_append]; exact hown', fun g hgb => if_pos hgb, fun i hi' => ?_⟩
              by_cases hin : i < row.xs.length
              · have e3 : (row.xs ++ ys)[i] = row.xs[i] := List.getElem_append_left hin
                have hle : i * row.k.sz + row.k.sz ≤ inner.length := by rw [hinl, ← Nat.succ_mul]; exact Nat.mul_le_mul_right _ hin
                have e4 : ((inner ++ news).drop (i * row.k.sz)).take row.k.sz = (inner.drop (i * row.k.sz)).take row.k.sz := by
                  rw [List.drop_append_of_le_length (by omega), List.take_append_of_le_length (by rw [List.length_drop]; omega)]
                simp only [e3, e4]
                exact (hels i hin).move (hmv i) hO.keeps
              · have hil : i - row.xs.length < ys.length := by
                  have := hi'; simp only [List.length_append] at this; omega
                have e3 : (row.xs ++ ys)[i] = ys[i - row.xs.length] := List.getElem_append_right (by omega)
                have e4 : ((inner ++ news).drop (i * row.k.sz)).take row.k.sz = (news.drop ((i - row.xs.length) * row.k.sz)).take row.k.sz := by
                  have hq : i * row.k.sz = inner.length + (i - row.xs.length) * row.k.sz := by
                    rw [hinl, ← Nat.add_mul]; congr 1; omega
                  rw [hq, ← List.drop_drop, List.drop_left]
                simp only [e3, e4]
                have := hnew2.get (i - row.xs.length) hil
                rw [show row.xs.length + (i - row.xs.length) = i by omega] at this
                exact this.move (hmv i) hO.keeps)
            have h3 := h2.put (v := .one (.own d)) (x := v') hd ⟨own_oneCell hown', fun r _ => by simp [upd_same]⟩
            simp only [Oper.wp, hrunO, Oper.upon, hdst]
            exact hn _ _ h3
          · cases h
        · cases h
      · cases h
    · cases h
  · cases h

end Go.Proofs.Ytlgbhpphfimdbaa.Ev
