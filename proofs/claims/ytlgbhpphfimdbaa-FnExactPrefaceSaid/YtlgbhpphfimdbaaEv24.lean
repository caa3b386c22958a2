/- Into a call: the data of the arguments, and what is lent and handed over. -/
import Derived.Test.YtlgbhpphfimdbaaEv23
namespace Go.Proofs.Ytlgbhpphfimdbaa.Ev
set_option linter.unusedVariables false
set_option linter.unusedSimpArgs false

/-- A row that is handed over: its number, its number in the callee, what it holds. -/
structure Hd where
  id : Nat
  r : Nat
  row : Row
  kp : Bool

def boOf : Lf → List Nat
  | .own id => [id]
  | .vw id _ _ => [id]
  | .sub id _ _ _ => [id]
  | _ => []

/-- What a slice that is lent holds. -/
def contR (cfg : Cfg) (s : St) (k : K) (l : Lf) : Option (List k.T × Rds) := match l with
  | .nil => some ([], [])
  | l => match content cfg s 0 l with
    | some (sl, rds) => match castL sl.k k sl.xs with
      | some xs => some (xs, rds)
      | none => none
    | none => none

theorem content_lent {cfg : Cfg} {s s' : St} {t : Nat} {l : Lf} {sl : SL} {rds : Rds} (h : content cfg s t l = some (sl, rds)) (hnil : l ≠ .nil) {n : Nat} {w0 : World} {φ0 : Gh} {a : Act} {m : Mem}
    (hr : Rel n w0 φ0 s' a m) (hrd : Reads s' rds) {v : Value} (hv : LfC s' m l v) {φ' : Col} (hk : Keeps m.w m.w m.φ φ') (hb : ∀ id ∈ boOf l, Frees m.w m.w m.φ φ' [2 * id]) : Ro (.rs sl.e sl.k) m.w φ' sl.xs [v] := by
  cases l with
  | nil => exact absurd rfl hnil
  | ro e k xs =>
    simp only [content] at h
    injection h with h; injection h with h _; subst h
    exact Ro.keep (k := .rs e k) hv hk
  | own id =>
    simp only [content] at h
    split at h
    · rename_i r hrow
      injection h with h; injection h with h1 h2; subst h1; subst h2
      have hg := hrd _ List.mem_cons_self
      rw [hv.2 r hg]
      exact (hr.rw id r hg).toFree (hb id (by simp [boOf])) hk
    · cases h
  | vw id lo hi =>
    simp only [content] at h
    split at h
    · rename_i r hrow
      injection h with h; injection h with h1 h2; subst h1; subst h2
      have hg := hrd _ List.mem_cons_self
      obtain ⟨h1, h2, h3⟩ := hv.2 r hg
      rw [h3]
      exact ro_cut ((hr.rw id r hg).toFree (hb id (by simp [boOf])) hk) h1 h2
    · cases h
  | sub id q off ver =>
    simp only [content] at h
    split at h
    · rename_i r i hrow hix
      split at h
      · rename_i hver
        split at h
        · rename_i sl' hsl
          injection h with h; injection h with h1 h2; subst h1; subst h2
          have hg := hrd (.r id, .r r) (by simp)
          have hq := hrd (.x q, .x i) (by simp)
          obtain ⟨h0, h5⟩ := hv.2 r i hg hq
          obtain ⟨h1, h2, h3, h4⟩ := h5 (Nat.eq_of_beq_eq_true hver)
          have hno : Ro (.rs r.e r.k) m.w φ' r.xs [m.ρ id] := (hr.rw id r hg).toFree (hb id (by simp [boOf])) hk
          obtain ⟨c, ad, ds, e1, _, hro, hcell⟩ := ro_elem hno h2
          rw [rd_eq h2] at hsl
          have hlen := hro.len
          have hd : ds[off]? = some ds[off] := by simp [show off < ds.length by omega]
          have := hcell off _ hd
          rw [e1, rowAddr_slice] at h4
          rw [this] at h4
          injection h4 with h4
          exact leafSl_ro hro hsl (h4 ▸ hd)
        · cases h
      · cases h
    · cases h
  | int k n => simp [content] at h
  | bool b => simp [content] at h
  | str x => simp [content] at h
  | ptr b off => simp [content] at h
  | ept id q off => simp [content] at h
  | rpt k x off => simp [content] at h
  | fn f => simp [content] at h
  | anyb => simp [content] at h

theorem contR_ok {cfg : Cfg} {s s' : St} {k : K} {l : Lf} {xs : List k.T} {rds : Rds} (h : contR cfg s k l = some (xs, rds)) {n : Nat} {w0 : World} {φ0 : Gh} {a : Act} {m : Mem}
    (hr : Rel n w0 φ0 s' a m) (hrd : Reads s' rds) {v : Value} (hv : LfC s' m l v) {φ' : Col} (hk : Keeps m.w m.w m.φ φ') (hb : ∀ id ∈ boOf l, Frees m.w m.w m.φ φ' [2 * id]) : RoL (Ro k m.w φ') k.sz m.w φ' xs [v] := by
  by_cases hnil : l = .nil
  · subst hnil
    simp only [contR] at h
    injection h with h; injection h with h1 h2; subst h1
    simp only [LfC] at hv; subst hv
    exact ⟨none, 0, rfl, Nat.le_refl _, Nat.zero_le _, fun h => by simp at h⟩
  · have h' : (match content cfg s 0 l with
      | some (sl, rds) => match castL sl.k k sl.xs with
        | some xs => some (xs, rds)
        | none => none
      | none => none) = some (xs, rds) := by
      cases l <;> first | exact absurd rfl hnil | exact h
    split at h'
    · rename_i sl rds' hc
      split at h'
      · rename_i ys hcast
        injection h' with h'; injection h' with h1 h2; subst h1; subst h2
        have := content_lent hc hnil hr hrd hv hk hb
        obtain ⟨ek, rfl⟩ := castL_some hcast
        subst ek
        exact this
      · cases h'
    · cases h'

theorem contR_reads {cfg : Cfg} {s : St} {k : K} {l : Lf} {xs : List k.T} {rds : Rds} (h : contR cfg s k l = some (xs, rds)) : Reads s rds := by
  by_cases hnil : l = .nil
  · subst hnil; simp only [contR] at h; injection h with h; injection h with _ h; subst h; exact Reads.nil _
  · have h' : (match content cfg s 0 l with
      | some (sl, rds) => match castL sl.k k sl.xs with
        | some xs => some (xs, rds)
        | none => none
      | none => none) = some (xs, rds) := by
      cases l <;> first | exact absurd rfl hnil | exact h
    split at h'
    · rename_i sl rds' hc
      split at h'
      · injection h' with h'; injection h' with _ h2; subst h2; exact content_reads hc
      · cases h'
    · cases h'

/-- Data out of cells for a callee: rows that it owns are handed over, each under its own root; what it reads is lent. -/
def gv (cfg : Cfg) (s : St) (kp : Bool) : Nat → (k : K) → List Lf → Option (k.T × List Lf × List Hd × List Nat × Rds)
  | _, .int κ, .int κ' n :: ls => match decide (κ = κ') with
    | true => some (n, ls, [], [], [])
    | false => none
  | _, .bool, .bool b :: ls => some (b, ls, [], [], [])
  | _, .str, .str b :: ls => some (b, ls, [], [], [])
  | base, .sl e k, .nil :: ls => some ([], ls, [], [], [])
  | base, .sl e k, .own id :: ls => match s.getR id with
    | some row => match Nat.beq row.e e, castL row.k k row.xs with
      | true, some xs => some (xs, ls, [⟨id, base, row, kp⟩], [], [(.r id, .r row)])
      | _, _ => none
    | none => none
  | _, .rs e k, l :: ls => match contR cfg s k l with
    | some (xs, rds) => some (xs, ls, [], boOf l, rds)
    | none => none
  | base, .pair a b, ls => match gv cfg s kp base a ls with
    | some (x, r1, h1, b1, d1) => match gv cfg s kp (base + a.sz) b r1 with
      | some (y, r2, h2, b2, d2) => some ((x, y), r2, h1 ++ h2, b1 ++ b2, d1 ++ d2)
      | none => none
    | none => none
  | _, _, _ => none

theorem gv_reads {cfg : Cfg} {s : St} {kp : Bool} : ∀ {k : K} {base : Nat} {ls : List Lf} {x : k.T} {rest : List Lf} {hd : List Hd} {bo : List Nat} {rds : Rds}, gv cfg s kp base k ls = some (x, rest, hd, bo, rds) → Reads s rds
  | .int κ, base, ls, x, rest, hd, bo, rds, h => by
    cases ls with
    | nil => simp [gv] at h
    | cons l ls =>
      cases l <;> simp only [gv] at h <;> try (cases h; done)
      split at h
      · injection h with h; injection h with _ h; injection h with _ h; injection h with _ h; injection h with _ h; subst h; exact Reads.nil _
      · cases h
  | .bool, base, ls, x, rest, hd, bo, rds, h => by
    cases ls with
    | nil => simp [gv] at h
    | cons l ls =>
      cases l <;> simp only [gv] at h <;> try (cases h; done)
      injection h with h; injection h with _ h; injection h with _ h; injection h with _ h; injection h with _ h; subst h; exact Reads.nil _
  | .str, base, ls, x, rest, hd, bo, rds, h => by
    cases ls with
    | nil => simp [gv] at h
    | cons l ls =>
      cases l <;> simp only [gv] at h <;> try (cases h; done)
      injection h with h; injection h with _ h; injection h with _ h; injection h with _ h; injection h with _ h; subst h; exact Reads.nil _
  | .sl e k, base, ls, x, rest, hd, bo, rds, h => by
    cases ls with
    | nil => simp [gv] at h
    | cons l ls =>
      cases l <;> simp only [gv] at h <;> try (cases h; done)
      · injection h with h; injection h with _ h; injection h with _ h; injection h with _ h; injection h with _ h; subst h; exact Reads.nil _
      · split at h
        · rename_i row hrow
          split at h
          · injection h with h; injection h with _ h; injection h with _ h; injection h with _ h; injection h with _ h; subst h
            intro p hp; rw [List.mem_singleton.1 hp]; exact St.getR_some.1 hrow
          · cases h
        · cases h
  | .rs e k, base, ls, x, rest, hd, bo, rds, h => by
    cases ls with
    | nil => simp [gv] at h
    | cons l ls =>
      simp only [gv] at h
      split at h
      · rename_i xs rds' hc
        injection h with h; injection h with _ h; injection h with _ h; injection h with _ h; injection h with _ h; subst h
        exact contR_reads hc
      · cases h
  | .pair a b, base, ls, x, rest, hd, bo, rds, h => by
    simp only [gv] at h
    split at h
    · rename_i x1 r1 h1 b1 d1 e1
      split at h
      · rename_i x2 r2 h2 b2 d2 e2
        injection h with h; injection h with _ h; injection h with _ h; injection h with _ h; injection h with _ h; subst h
        exact Reads.app.2 ⟨gv_reads e1, gv_reads e2⟩
      · cases h
    · cases h

/-- What is told of colours, of what is handed over and lent. -/
structure CalOk (m : Mem) (φ' : Col) (hd : List Hd) (bo : List Nat) : Prop where
  hd : ∀ h ∈ hd, ∀ p, Moves m.w m.w m.φ φ' (2 * h.id :: p) (2 * h.r :: p)
  bo : ∀ id ∈ bo, Frees m.w m.w m.φ φ' [2 * id]

theorem CalOk.left {m : Mem} {φ' : Col} {h1 h2 : List Hd} {b1 b2 : List Nat} (h : CalOk m φ' (h1 ++ h2) (b1 ++ b2)) : CalOk m φ' h1 b1 :=
  ⟨fun x hx => h.hd x (List.mem_append_left _ hx), fun x hx => h.bo x (List.mem_append_left _ hx)⟩
theorem CalOk.right {m : Mem} {φ' : Col} {h1 h2 : List Hd} {b1 b2 : List Nat} (h : CalOk m φ' (h1 ++ h2) (b1 ++ b2)) : CalOk m φ' h2 b2 :=
  ⟨fun x hx => h.hd x (List.mem_append_right _ hx), fun x hx => h.bo x (List.mem_append_right _ hx)⟩

theorem gv_ok {cfg : Cfg} {s s' : St} {kp : Bool} {n : Nat} {w0 : World} {φ0 : Gh} {a : Act} {m : Mem} (hr : Rel n w0 φ0 s' a m) {φ' : Col} (hk : Keeps m.w m.w m.φ φ') :
    ∀ {k : K} {base : Nat} {ls : List Lf} {x : k.T} {rest : List Lf} {hd : List Hd} {bo : List Nat} {rds : Rds}, gv cfg s kp base k ls = some (x, rest, hd, bo, rds) → Reads s' rds → CalOk m φ' hd bo → ∀ {vs : List Value}, All2 (LfC s' m) ls vs →
      ∃ v0 v1, vs = v0 ++ v1 ∧ LvC m.w φ' base k x v0 ∧ All2 (LfC s' m) rest v1
  | .int κ, base, ls, x, rest, hd, bo, rds, h, hrd, hc, vs, hv => by
    cases ls with
    | nil => simp [gv] at h
    | cons l ls =>
      cases vs with
      | nil => exact hv.elim
      | cons v vs =>
        cases l <;> simp only [gv] at h <;> try (cases h; done)
        split at h
        · rename_i he
          have he := of_decide_eq_true he
          subst he
          injection h with h; injection h with h1 h; injection h with h2 h; subst h1; subst h2
          exact ⟨[v], vs, rfl, by have := hv.1; simp only [LfC] at this; subst this; rfl, hv.2⟩
        · cases h
  | .bool, base, ls, x, rest, hd, bo, rds, h, hrd, hc, vs, hv => by
    cases ls with
    | nil => simp [gv] at h
    | cons l ls =>
      cases vs with
      | nil => exact hv.elim
      | cons v vs =>
        cases l <;> simp only [gv] at h <;> try (cases h; done)
        injection h with h; injection h with h1 h; injection h with h2 h; subst h1; subst h2
        exact ⟨[v], vs, rfl, by have := hv.1; simp only [LfC] at this; subst this; rfl, hv.2⟩
  | .str, base, ls, x, rest, hd, bo, rds, h, hrd, hc, vs, hv => by
    cases ls with
    | nil => simp [gv] at h
    | cons l ls =>
      cases vs with
      | nil => exact hv.elim
      | cons v vs =>
        cases l <;> simp only [gv] at h <;> try (cases h; done)
        injection h with h; injection h with h1 h; injection h with h2 h; subst h1; subst h2
        exact ⟨[v], vs, rfl, by have := hv.1; simp only [LfC] at this; subst this; rfl, hv.2⟩
  | .sl e k, base, ls, x, rest, hd, bo, rds, h, hrd, hc, vs, hv => by
    cases ls with
    | nil => simp [gv] at h
    | cons l ls =>
      cases vs with
      | nil => exact hv.elim
      | cons v vs =>
        cases l <;> simp only [gv] at h <;> try (cases h; done)
        · injection h with h; injection h with h1 h; injection h with h2 h; subst h1; subst h2
          refine ⟨[v], vs, rfl, ⟨v, rfl, ?_⟩, hv.2⟩
          have := hv.1
          simp only [LfC] at this; subst this
          exact ⟨[], owns_nil _ _ _ _, fun g hg => by simp [Value.ownBlock] at hg, fun i h => by simp at h⟩
        · split at h
          · rename_i id _ row hrow
            split at h
            · rename_i xs hb hcast
              injection h with h; injection h with h1 h; injection h with h2 h; injection h with h3 h; injection h with h4 h5; subst h1; subst h2; subst h3; subst h4; subst h5
              refine ⟨[v], vs, rfl, ⟨v, rfl, ?_⟩, hv.2⟩
              have hg := hrd (.r id, .r row) (by simp)
              rw [hv.1.2 row hg]
              have hm := hc.hd ⟨id, base, row, kp⟩ (by simp) []
              have := (hr.rw id row hg).move hm hk
              have hb := Nat.eq_of_beq_eq_true hb
              obtain ⟨ek, rfl⟩ := castL_some hcast
              subst hb; subst ek
              exact this
            · cases h
          · cases h
  | .rs e k, base, ls, x, rest, hd, bo, rds, h, hrd, hc, vs, hv => by
    cases ls with
    | nil => simp [gv] at h
    | cons l ls =>
      cases vs with
      | nil => exact hv.elim
      | cons v vs =>
        simp only [gv] at h
        split at h
        · rename_i xs rds' hcont
          injection h with h; injection h with h1 h; injection h with h2 h; injection h with h3 h; injection h with h4 h5; subst h1; subst h2; subst h3; subst h4; subst h5
          exact ⟨[v], vs, rfl, contR_ok hcont hr hrd hv.1 hk hc.bo, hv.2⟩
        · cases h
  | .pair a b, base, ls, x, rest, hd, bo, rds, h, hrd, hc, vs, hv => by
    simp only [gv] at h
    split at h
    · rename_i x1 r1 h1 b1 d1 e1
      split at h
      · rename_i x2 r2 h2 b2 d2 e2
        injection h with h; injection h with h3 h; injection h with h4 h; injection h with h5 h; injection h with h6 h7; subst h3; subst h4; subst h5; subst h6; subst h7
        obtain ⟨hrd1, hrd2⟩ := Reads.app.1 hrd
        obtain ⟨v0, v1, rfl, hl, hrest⟩ := gv_ok hr hk e1 hrd1 hc.left hv
        obtain ⟨v2, v3, rfl, hl2, hrest2⟩ := gv_ok hr hk e2 hrd2 hc.right hrest
        exact ⟨v0 ++ v2, v3, by rw [List.append_assoc], ⟨v0, v2, rfl, hl, hl2⟩, hrest2⟩
      · cases h
    · cases h

end Go.Proofs.Ytlgbhpphfimdbaa.Ev
