/- Rows that go into others: data out of cells, and the change of colours. -/
import Derived.Test.YtlgbhpphfimdbaaEv10
namespace Go.Proofs.Ytlgbhpphfimdbaa.Ev
set_option linter.unusedVariables false
set_option linter.unusedSimpArgs false

abbrev Tg := List (Nat × (Path → Option Path))
def lookR : Tg → Nat → Option (Path → Option Path)
  | [], _ => none
  | (id, f) :: t, r => if 2 * id = r then some f else lookR t r
def recol (tg : Tg) (φ : Col) : Col := fun b => match φ b with
  | some (r :: q) => match lookR tg r with
    | some f => f q
    | none => some (r :: q)
  | c => c

theorem recol_keeps (w : World) (tg : Tg) (φ : Col) : Keeps w w φ (recol tg φ) := fun b hb _ => ⟨rfl, by simp only [recol, hb]⟩
theorem recol_fore (w : World) (tg : Tg) (φ : Col) : Fore w w φ (recol tg φ) := fun b hb _ => ⟨rfl, by simp only [recol, hb]⟩
theorem recol_moves {w : World} {tg : Tg} {φ : Col} {id : Nat} {f : Path → Option Path} (hl : lookR tg (2 * id) = some f) {p p' : Path} (hf : ∀ q, f (p ++ q) = some (p' ++ q)) :
    Moves w w φ (recol tg φ) (2 * id :: p) p' := fun b q hb _ => ⟨rfl, by
  have hb' : φ b = some (2 * id :: (p ++ q)) := hb
  simp only [recol, hb', hl, hf]⟩
theorem recol_frees {w : World} {tg : Tg} {φ : Col} {id : Nat} {f : Path → Option Path} (hl : lookR tg (2 * id) = some f) {p : Path} (hf : ∀ q, f (p ++ q) = none) :
    Frees w w φ (recol tg φ) (2 * id :: p) := fun b q hb _ => ⟨rfl, by
  have hb' : φ b = some (2 * id :: (p ++ q)) := hb
  simp only [recol, hb', hl, hf]⟩
theorem recol_other {w : World} {tg : Tg} {φ : Col} {r : Nat} (hl : lookR tg r = none) (p : Path) : Moves w w φ (recol tg φ) (r :: p) (r :: p) := fun b q hb _ => ⟨rfl, by
  have hb' : φ b = some (r :: (p ++ q)) := hb
  simp only [recol, hb', hl]; rfl⟩

theorem lookR_none {tg : Tg} {r : Nat} (h : ∀ v ∈ tg, 2 * v.1 ≠ r) : lookR tg r = none := by
  induction tg with
  | nil => rfl
  | cons v tg ih =>
    simp only [lookR]
    rw [if_neg (h v List.mem_cons_self)]
    exact ih fun u hu => h u (List.mem_cons_of_mem _ hu)

theorem get_tomb {ids : List Nat} {s : St} {l : Loc} (hl : ∀ i ∈ ids, l ≠ .r i) : St.get (ids.map (fun i => (Loc.r i, (none : Option LV))) ++ s) l = s.get l := by
  induction ids with
  | nil => rfl
  | cons i ids ih =>
    rw [List.map_cons, List.cons_append, St.get_cons_ne (Ne.symm (hl i List.mem_cons_self))]
    exact ih fun j hj => hl j (List.mem_cons_of_mem _ hj)
theorem get_tomb_none {ids : List Nat} {s : St} {i : Nat} (hi : i ∈ ids) : St.get (ids.map (fun i => (Loc.r i, (none : Option LV))) ++ s) (.r i) = none := by
  induction ids with
  | nil => cases hi
  | cons j ids ih =>
    rw [List.map_cons, List.cons_append]
    by_cases e : j = i
    · subst e; exact St.get_cons_same _ _ _
    · rw [St.get_cons_ne (by simpa using e)]
      exact ih ((List.mem_cons.1 hi).resolve_left (fun h => e h.symm))

/-- Rows leave the state; their blocks change colour. -/
theorem Rel.drop {n : Nat} {w0 : World} {φ0 : Gh} {s : St} {a : Act} {m : Mem} (h : Rel n w0 φ0 s a m) (tg : Tg) :
    Rel n w0 φ0 ((tg.map (·.1)).map (fun i => (Loc.r i, (none : Option LV))) ++ s) a ⟨m.w, recol tg m.φ, m.ρ, m.β⟩ := by
  have hgt : ∀ l, (∀ i, l ≠ .r i) → St.get ((tg.map (·.1)).map (fun i => (Loc.r i, (none : Option LV))) ++ s) l = s.get l := fun l hl => get_tomb fun i _ => hl i
  have hgr : ∀ id lv, St.get ((tg.map (·.1)).map (fun i => (Loc.r i, (none : Option LV))) ++ s) (.r id) = some lv → id ∉ tg.map (·.1) ∧ s.get (.r id) = some lv := by
    intro id lv hg
    by_cases hi : id ∈ tg.map (·.1)
    · rw [get_tomb_none hi] at hg; cases hg
    · refine ⟨hi, ?_⟩
      rw [get_tomb fun i hh e => hi (by injection e with e; subst e; exact hh)] at hg
      exact hg
  have hX : Ext s m ((tg.map (·.1)).map (fun i => (Loc.r i, (none : Option LV))) ++ s) ⟨m.w, recol tg m.φ, m.ρ, m.β⟩ (Live s) :=
    ⟨recol_keeps _ _ _, fun id r' _ hr => ⟨r', (hgr id _ hr).2, rfl, rfl, rfl, Nat.le_refl _, fun _ _ _ _ hc => hc⟩, fun b c' _ hc => ⟨c', by rwa [hgt _ (by simp)] at hc, rfl⟩, fun q i _ hi => by rwa [hgt _ (by simp)] at hi⟩
  refine h.change (fun d => hgt _ (by simp)) hX (fun id r hr => ?_) (fun b c hc => ?_) (recol_fore _ _ _) (Nat.le_refl _) rfl rfl rfl (fun id r _ _ hg => ⟨⟨r, (hgr id _ hg).2⟩, rfl⟩) (fun b c _ _ hg => ⟨⟨c, by rwa [hgt _ (by simp)] at hg⟩, rfl⟩)
  · obtain ⟨hni, hg⟩ := hgr id _ hr
    exact (h.rw id r hg).move (recol_other (lookR_none fun v hv e => hni (List.mem_map.2 ⟨v, hv, by omega⟩)) []) (recol_keeps _ _ _)
  · rw [hgt _ (by simp)] at hc
    obtain ⟨cs', h3, h4, h5, h6⟩ := h.bx b c hc
    refine ⟨cs', All2.imp (fun l hm x hb => hb.ext (hX.sub fun q hq => ⟨.b b, .b c, hc, List.mem_flatMap.2 ⟨l, hm, hq⟩⟩)) h3, h4, ?_, h6⟩
    have hlt : (m.β b).g < m.w.heap.size := (Array.getElem?_eq_some_iff.1 h6).1
    have := (recol_other (w := m.w) (tg := tg) (φ := m.φ) (r := 2 * b + 1) (lookR_none fun v _ => by omega) [] (m.β b).g [] h5 hlt).2
    exact this

/-- Rows' data at the kind that is asked. -/
def castL (k k' : K) (xs : List k.T) : Option (List k'.T) := if h : k = k' then some (h ▸ xs) else none

theorem castL_some {k k' : K} {xs : List k.T} {ys : List k'.T} (h : castL k k' xs = some ys) : ∃ e : k = k', ys = e ▸ xs := by
  unfold castL at h
  split at h
  · rename_i e; injection h with h; exact ⟨e, h.symm⟩
  · cases h

/-- Which row goes where: its number, its path behind the base (none: it is given up to be read), what it held. -/
abbrev Mv := List (Nat × Option Path × Row)

def gath (s : St) : (k : K) → List Lf → Path → Option (k.T × List Lf × Mv)
  | .int κ, .int κ' n :: r, _ => match decide (κ = κ') with
    | true => some (n, r, [])
    | false => none
  | .bool, .bool b :: r, _ => some (b, r, [])
  | .str, .str b :: r, _ => some (b, r, [])
  | .sl _ k, .nil :: r, _ => some (([] : List k.T), r, [])
  | .sl e k, .own id :: r, p => match s.getR id with
    | some row => match Nat.beq row.e e, castL row.k k row.xs with
      | true, some xs => some (xs, r, [(id, some p, row)])
      | _, _ => none
    | none => none
  | .sl e k, .vw id 0 hi :: r, p => match s.getR id with
    | some row => match Nat.beq row.e e, castL row.k k row.xs with
      | true, some xs => some (xs.take hi, r, [(id, some p, row)])
      | _, _ => none
    | none => none
  | .rs _ k, .nil :: r, _ => some (([] : List k.T), r, [])
  | .rs _ k, .ro _ k' xs :: r, _ => match castL k' k xs with
    | some ys => some (ys, r, [])
    | none => none
  | .rs _ k, .own id :: r, _ => match s.getR id with
    | some row => match castL row.k k row.xs with
      | some xs => some (xs, r, [(id, none, row)])
      | none => none
    | none => none
  | .rs _ k, .vw id lo hi :: r, _ => match s.getR id with
    | some row => match castL row.k k row.xs with
      | some xs => some ((xs.take hi).drop lo, r, [(id, none, row)])
      | none => none
    | none => none
  | .pair a b, ls, p => match gath s a ls (p ++ [0]) with
    | some (x, r, m1) => match gath s b r (p ++ [1]) with
      | some (y, r', m2) => some ((x, y), r', m1 ++ m2)
      | none => none
    | none => none
  | _, _, _ => none

def mvR (mv : Mv) : Rds := mv.map fun v => (.r v.1, .r v.2.2)

/-- The new colours do what is asked. -/
def Does (w w' : World) (φ φ' : Col) (p0 : Path) (mv : Mv) : Prop :=
  ∀ v ∈ mv, match v.2.1 with
    | some p => Moves w w' φ φ' [2 * v.1] (p0 ++ p)
    | none => Frees w w' φ φ' [2 * v.1]

theorem take_ow {k : K} {e : Nat} {w : World} {φ : Col} {p : Path} {xs : List k.T} {v : Value} (h : OwL (Ow k w φ) e k.sz w φ p xs v) {hi : Nat} (hh : hi ≤ xs.length) :
    OwL (Ow k w φ) e k.sz w φ p (xs.take hi) (cutV k.sz 0 hi v) := by
  obtain ⟨inner, ho, hc, hi'⟩ := h
  have hl : (xs.take hi).length = hi := by rw [List.length_take]; omega
  rcases ho.2 with ⟨rfl, hn⟩ | ⟨g, cap, cur, fz, rfl, hb, hg, hfz, hn, hcap, hs, ht⟩
  · have h0 : hi = 0 := by omega
    subst h0
    refine ⟨[], ?_, fun g hg => by simp [cutV, Value.ownBlock] at hg, fun i h => by simp at h⟩
    simpa [cutV] using owns_nil w 0 e k.sz
  · have e1 : cutV k.sz 0 hi (.slice (some ⟨g, 0, none⟩) xs.length cap) = .slice (some ⟨g, 0, none⟩) hi cap := by
      simp only [cutV, Nat.zero_mul, Nat.sub_zero, Option.map_some, Addr.add, if_true]
      split <;> rfl
    rw [e1]
    have hlen : hi * k.sz ≤ inner.length := by rw [ho.1]; exact Nat.mul_le_mul_right _ hh
    refine ⟨inner.take (hi * k.sz), ⟨by rw [hl, List.length_take]; omega, .inr ⟨g, cap, cur, fz, by rw [hl], hb, hg, hfz, by rw [hl]; omega, hcap, hs, ?_⟩⟩, hc, fun i h => ?_⟩
    · rw [hl, ← ht, List.take_take]
      congr 1
      exact (Nat.min_eq_left (Nat.mul_le_mul_right _ hh)).symm
    · rw [hl] at h
      have hx := hi' i (by omega)
      have e2 : (xs.take hi)[i]'(by rw [hl]; exact h) = xs[i]'(by omega) := by simp
      rw [e2]
      have e3 : ((inner.take (hi * k.sz)).drop (i * k.sz)).take k.sz = (inner.drop (i * k.sz)).take k.sz := by
        rw [List.drop_take, List.take_take]
        congr 1
        have : i * k.sz + k.sz ≤ hi * k.sz := by rw [← Nat.succ_mul]; exact Nat.mul_le_mul_right _ h
        omega
      rw [e3]; exact hx

theorem OwL.toFree {k : K} {e e' : Nat} {w w' : World} {φ φ' : Col} {p : Path} {xs : List k.T} {v : Value} (h : OwL (Ow k w φ) e k.sz w φ p xs v) (hf : Frees w w' φ φ' p) (hk : Keeps w w' φ φ') :
    Ro (.rs e' k) w' φ' xs [v] := Ow.free (k := .sl e k) ⟨v, rfl, h⟩ hf hk

theorem gath_ok {s s' : St} {n : Nat} {w0 : World} {φ0 : Gh} {a : Act} {m : Mem} (hr : Rel n w0 φ0 s' a m) {w' : World} {φ' : Col} (hk : Keeps m.w w' m.φ φ') (p0 : Path) :
    ∀ {k : K} {ls : List Lf} {p : Path} {x : k.T} {rest : List Lf} {mv : Mv} {cs : List Value}, gath s k ls p = some (x, rest, mv) → Reads s' (mvR mv) → All2 (LfC s' m) ls cs →
      Does m.w w' m.φ φ' p0 mv → ∃ c0 c1, cs = c0 ++ c1 ∧ Ow k w' φ' (p0 ++ p) x c0 ∧ All2 (LfC s' m) rest c1
  | .int κ, ls, p, x, rest, mv, cs, h, hrd, hl, hd => by
    cases ls with
    | nil => simp [gath] at h
    | cons l ls =>
      cases cs with
      | nil => exact hl.elim
      | cons c cs =>
        cases l <;> simp only [gath] at h <;> try (cases h; done)
        split at h
        · rename_i e
          have e := of_decide_eq_true e
          injection h with h; injection h with h1 h; injection h with h2 h3
          subst h1; subst h2; subst e
          exact ⟨[c], cs, rfl, by have := hl.1; simp only [LfC] at this; subst this; rfl, hl.2⟩
        · cases h
  | .bool, ls, p, x, rest, mv, cs, h, hrd, hl, hd => by
    cases ls with
    | nil => simp [gath] at h
    | cons l ls =>
      cases cs with
      | nil => exact hl.elim
      | cons c cs =>
        cases l <;> simp only [gath] at h <;> try (cases h; done)
        injection h with h; injection h with h1 h; injection h with h2 h3
        subst h1; subst h2
        exact ⟨[c], cs, rfl, by have := hl.1; simp only [LfC] at this; subst this; rfl, hl.2⟩
  | .str, ls, p, x, rest, mv, cs, h, hrd, hl, hd => by
    cases ls with
    | nil => simp [gath] at h
    | cons l ls =>
      cases cs with
      | nil => exact hl.elim
      | cons c cs =>
        cases l <;> simp only [gath] at h <;> try (cases h; done)
        injection h with h; injection h with h1 h; injection h with h2 h3
        subst h1; subst h2
        exact ⟨[c], cs, rfl, by have := hl.1; simp only [LfC] at this; subst this; rfl, hl.2⟩
  | .sl e k, ls, p, x, rest, mv, cs, h, hrd, hl, hd => by
    cases ls with
    | nil => simp [gath] at h
    | cons l ls =>
      cases cs with
      | nil => exact hl.elim
      | cons c cs =>
        cases l with
        | nil =>
          simp only [gath] at h
          injection h with h; injection h with h1 h; injection h with h2 h3
          subst h1; subst h2
          have := hl.1; simp only [LfC] at this; subst this
          exact ⟨[_], cs, rfl, ⟨_, rfl, [], owns_nil _ _ _ _, fun g hg => by simp [Value.ownBlock] at hg, fun i h => by simp at h⟩, hl.2⟩
        | own id =>
          simp only [gath] at h
          split at h
          · rename_i row er
            split at h
            · rename_i xs he hcast
              injection h with h; injection h with h1 h; injection h with h2 h3
              subst h1; subst h2; subst h3
              obtain ⟨ek, rfl⟩ := castL_some hcast
              subst ek
              have hrow := hrd (.r id, .r row) (by simp [mvR])
              have hv := hl.1.2 row hrow
              have hm := hd (id, some p, row) (by simp)
              have he := Nat.eq_of_beq_eq_true he
              subst he
              exact ⟨[c], cs, rfl, ⟨c, rfl, by rw [hv]; exact (hr.rw id row hrow).move hm hk⟩, hl.2⟩
            · cases h
          · cases h
        | vw id lo hi =>
          cases lo with
          | succ lo => simp [gath] at h
          | zero =>
            simp only [gath] at h
            split at h
            · rename_i row er
              split at h
              · rename_i xs he hcast
                injection h with h; injection h with h1 h; injection h with h2 h3
                subst h1; subst h2; subst h3
                obtain ⟨ek, rfl⟩ := castL_some hcast
                subst ek
                have hrow := hrd (.r id, .r row) (by simp [mvR])
                obtain ⟨_, hh, hv⟩ := hl.1.2 row hrow
                have hm := hd (id, some p, row) (by simp)
                have he := Nat.eq_of_beq_eq_true he
                subst he
                exact ⟨[c], cs, rfl, ⟨c, rfl, by rw [hv]; exact take_ow ((hr.rw id row hrow).move hm hk) hh⟩, hl.2⟩
              · cases h
            · cases h
        | int k n => simp [gath] at h
        | bool b => simp [gath] at h
        | str b => simp [gath] at h
        | ro e k xs => simp [gath] at h
        | sub id q off ver => simp [gath] at h
        | ptr b off => simp [gath] at h
        | ept id q off => simp [gath] at h
        | rpt k x off => simp [gath] at h
        | fn f => simp [gath] at h
        | anyb => simp [gath] at h
  | .rs e k, ls, p, x, rest, mv, cs, h, hrd, hl, hd => by
    cases ls with
    | nil => simp [gath] at h
    | cons l ls =>
      cases cs with
      | nil => exact hl.elim
      | cons c cs =>
        cases l with
        | nil =>
          simp only [gath] at h
          injection h with h; injection h with h1 h; injection h with h2 h3
          subst h1; subst h2
          have := hl.1; simp only [LfC] at this; subst this
          exact ⟨[_], cs, rfl, ⟨none, 0, rfl, Nat.le_refl _, Nat.zero_le _, fun h => by simp at h⟩, hl.2⟩
        | ro e' k' xs =>
          simp only [gath] at h
          split at h
          · rename_i ys hcast
            injection h with h; injection h with h1 h; injection h with h2 h3
            subst h1; subst h2; subst h3
            obtain ⟨ek, rfl⟩ := castL_some hcast
            subst ek
            have hro : Ro (.rs e' k') m.w m.φ xs [c] := hl.1
            exact ⟨[c], cs, rfl, Ro.keep (k := .rs e k') hro hk, hl.2⟩
          · cases h
        | own id =>
          simp only [gath] at h
          split at h
          · rename_i row er
            split at h
            · rename_i xs hcast
              injection h with h; injection h with h1 h; injection h with h2 h3
              subst h1; subst h2; subst h3
              obtain ⟨ek, rfl⟩ := castL_some hcast
              subst ek
              have hrow := hrd (.r id, .r row) (by simp [mvR])
              have hv := hl.1.2 row hrow
              have hm := hd (id, none, row) (by simp)
              exact ⟨[c], cs, rfl, by rw [hv]; exact (hr.rw id row hrow).toFree (e' := e) hm hk, hl.2⟩
            · cases h
          · cases h
        | vw id lo hi =>
          simp only [gath] at h
          split at h
          · rename_i row er
            split at h
            · rename_i xs hcast
              injection h with h; injection h with h1 h; injection h with h2 h3
              subst h1; subst h2; subst h3
              obtain ⟨ek, rfl⟩ := castL_some hcast
              subst ek
              have hrow := hrd (.r id, .r row) (by simp [mvR])
              obtain ⟨g1, g2, hv⟩ := hl.1.2 row hrow
              have hm := hd (id, none, row) (by simp)
              exact ⟨[c], cs, rfl, by rw [hv]; exact ro_cut (e := e) ((hr.rw id row hrow).toFree hm hk) g1 g2, hl.2⟩
            · cases h
          · cases h
        | int k n => simp [gath] at h
        | bool b => simp [gath] at h
        | str b => simp [gath] at h
        | sub id q off ver => simp [gath] at h
        | ptr b off => simp [gath] at h
        | ept id q off => simp [gath] at h
        | rpt k x off => simp [gath] at h
        | fn f => simp [gath] at h
        | anyb => simp [gath] at h
  | .pair ka kb, ls, p, x, rest, mv, cs, h, hrd, hl, hd => by
    simp only [gath] at h
    split at h
    · rename_i x1 r1 m1 e1
      split at h
      · rename_i x2 r2 m2 e2
        injection h with h; injection h with h1 h; injection h with h2 h3
        subst h1; subst h2; subst h3
        have hrd' : Reads s' (mvR m1) ∧ Reads s' (mvR m2) := by
          rw [← Reads.app]; simpa [mvR] using hrd
        obtain ⟨c0, c1, rfl, ho1, hl1⟩ := gath_ok hr hk p0 e1 hrd'.1 hl (fun v hv => hd v (List.mem_append_left _ hv))
        obtain ⟨c2, c3, rfl, ho2, hl2⟩ := gath_ok hr hk p0 e2 hrd'.2 hl1 (fun v hv => hd v (List.mem_append_right _ hv))
        exact ⟨c0 ++ c2, c3, by simp, ⟨c0, c2, rfl, by rw [List.append_assoc]; exact ho1, by rw [List.append_assoc]; exact ho2⟩, hl2⟩
      · cases h
    · cases h

theorem gath_reads {s : St} : ∀ {k : K} {ls : List Lf} {p : Path} {x : k.T} {rest : List Lf} {mv : Mv}, gath s k ls p = some (x, rest, mv) → Reads s (mvR mv) := by
  intro k
  have one : ∀ {id : Nat} {q : Option Path} {row : Row}, s.getR id = some row → Reads s (mvR [(id, q, row)]) := by
    intro id q row er u hu
    simp only [mvR, List.map_cons, List.map_nil, List.mem_singleton] at hu
    subst hu; exact St.getR_some.1 er
  induction k with
  | pair ka kb iha ihb =>
    intro ls p x rest mv h
    simp only [gath] at h
    split at h
    · rename_i x1 r1 m1 e1
      split at h
      · rename_i x2 r2 m2 e2
        injection h with h; injection h with h1 h; injection h with h2 h3
        subst h3
        have := Reads.app.2 ⟨iha e1, ihb e2⟩
        simpa [mvR] using this
      · cases h
    · cases h
  | int κ =>
    intro ls p x rest mv h
    cases ls with
    | nil => simp [gath] at h
    | cons l ls =>
      cases l <;> simp only [gath] at h <;> try (cases h; done)
      split at h
      · injection h with h; injection h with _ h; injection h with _ h; subst h; exact Reads.nil _
      · cases h
  | bool =>
    intro ls p x rest mv h
    cases ls with
    | nil => simp [gath] at h
    | cons l ls =>
      cases l <;> simp only [gath] at h <;> try (cases h; done)
      injection h with h; injection h with _ h; injection h with _ h; subst h; exact Reads.nil _
  | str =>
    intro ls p x rest mv h
    cases ls with
    | nil => simp [gath] at h
    | cons l ls =>
      cases l <;> simp only [gath] at h <;> try (cases h; done)
      injection h with h; injection h with _ h; injection h with _ h; subst h; exact Reads.nil _
  | sl e k ih =>
    intro ls p x rest mv h
    cases ls with
    | nil => simp [gath] at h
    | cons l ls =>
      cases l with
      | nil =>
        simp only [gath] at h
        injection h with h; injection h with _ h; injection h with _ h; subst h; exact Reads.nil _
      | own id =>
        simp only [gath] at h
        split at h
        · rename_i row er
          split at h
          · injection h with h; injection h with _ h; injection h with _ h; subst h; exact one er
          · cases h
        · cases h
      | vw id lo hi =>
        cases lo with
        | succ lo => simp [gath] at h
        | zero =>
          simp only [gath] at h
          split at h
          · rename_i row er
            split at h
            · injection h with h; injection h with _ h; injection h with _ h; subst h; exact one er
            · cases h
          · cases h
      | int k n => simp [gath] at h
      | bool b => simp [gath] at h
      | str b => simp [gath] at h
      | ro e k xs => simp [gath] at h
      | sub id q off ver => simp [gath] at h
      | ptr b off => simp [gath] at h
      | ept id q off => simp [gath] at h
      | rpt k x off => simp [gath] at h
      | fn f => simp [gath] at h
      | anyb => simp [gath] at h
  | rs e k ih =>
    intro ls p x rest mv h
    cases ls with
    | nil => simp [gath] at h
    | cons l ls =>
      cases l with
      | nil =>
        simp only [gath] at h
        injection h with h; injection h with _ h; injection h with _ h; subst h; exact Reads.nil _
      | ro e' k' xs =>
        simp only [gath] at h
        split at h
        · injection h with h; injection h with _ h; injection h with _ h; subst h; exact Reads.nil _
        · cases h
      | own id =>
        simp only [gath] at h
        split at h
        · rename_i row er
          split at h
          · injection h with h; injection h with _ h; injection h with _ h; subst h; exact one er
          · cases h
        · cases h
      | vw id lo hi =>
        simp only [gath] at h
        split at h
        · rename_i row er
          split at h
          · injection h with h; injection h with _ h; injection h with _ h; subst h; exact one er
          · cases h
        · cases h
      | int k n => simp [gath] at h
      | bool b => simp [gath] at h
      | str b => simp [gath] at h
      | sub id q off ver => simp [gath] at h
      | ptr b off => simp [gath] at h
      | ept id q off => simp [gath] at h
      | rpt k x off => simp [gath] at h
      | fn f => simp [gath] at h
      | anyb => simp [gath] at h

end Go.Proofs.Ytlgbhpphfimdbaa.Ev
