/- What is told of a program's types, as a table. -/
import Derived.Test.YtlgbhpphfimdbaaEv38
namespace Go.Proofs.Ytlgbhpphfimdbaa.Ev
set_option linter.unusedVariables false
set_option linter.unusedSimpArgs false

structure TyOk (P : Program) (t : Nat) (i : TyI) : Prop where
  info : ∃ f z, P.info? t = some f ∧ f.size = i.k.sz ∧ f.bytes = i.bytes ∧ f.zero = some z ∧ z.cells.toList = zc i.k ∧ (i.agg = true → z = .agg z.cells)
  und : ∃ d, P.underlying t = some d ∧ isAggD d = i.agg ∧ (∀ κ, i.k = .int κ → d = .int κ) ∧ (i.k = .bool → d = .bool) ∧ (i.k = .str → d = .string) ∧
    (i.agg = true → ∃ fs, d = .struct fs ∧ fs.size = i.flds.length ∧ ∀ (j : Nat) f, i.flds[j]? = some f → ∃ fd, fs[j]? = some fd ∧ FldOk P fd f)

def lookN {α : Type} : List (Nat × α) → Nat → Option α
  | [], _ => none
  | (t, i) :: l, d => match Nat.beq t d with
    | true => some i
    | false => lookN l d

theorem lookN_mem {α : Type} : ∀ {l : List (Nat × α)} {t : Nat} {i : α}, lookN l t = some i → (t, i) ∈ l
  | (t0, i0) :: l, t, i, h => by
    simp only [lookN] at h
    split at h
    · rename_i hb; injection h with h; subst h; rw [Nat.eq_of_beq_eq_true hb]; exact List.mem_cons_self
    · exact List.mem_cons_of_mem _ (lookN_mem h)

def cfgL (tys : List (Nat × TyI)) (els : List (Nat × Nat)) : Cfg := ⟨lookN tys, lookN els⟩

theorem cfgL_ok {P : Program} {tys : List (Nat × TyI)} {els : List (Nat × Nat)} (h : ∀ p ∈ tys, TyOk P p.1 p.2) (he : ∀ p ∈ els, P.underlying p.1 = some (.slice p.2)) : CfgOk P (cfgL tys els) where
  info := fun {t i} ht => (h _ (lookN_mem ht)).info
  agg := fun {t i} ht => let ⟨d, h1, h2, _⟩ := (h _ (lookN_mem ht)).und; ⟨d, h1, h2⟩
  st := fun {t i} ht ha => by
    obtain ⟨d, h1, h2, _, _, _, h6⟩ := (h _ (lookN_mem ht)).und
    obtain ⟨fs, rfl, h7⟩ := h6 ha
    exact ⟨fs, h1, h7⟩
  int := fun {t i κ} ht hk => let ⟨d, h1, _, h3, _⟩ := (h _ (lookN_mem ht)).und; by rw [h1, h3 κ hk]
  bool := fun {t i} ht hk => let ⟨d, h1, _, _, h4, _⟩ := (h _ (lookN_mem ht)).und; by rw [h1, h4 hk]
  str := fun {t i} ht hk => let ⟨d, h1, _, _, _, h5, _⟩ := (h _ (lookN_mem ht)).und; by rw [h1, h5 hk]
  el := fun {t e} ht => he _ (lookN_mem ht)

theorem tyOk_int {P : Program} {t : Nat} {f : TypeInfo} {κ : IntKind} {b : Nat} (h1 : P.info? t = some f) (h2 : f.size = 1) (h3 : f.bytes = b) (h4 : f.zero = some (.int κ 0)) (h5 : P.underlying t = some (.int κ)) : TyOk P t ⟨false, .int κ, b, []⟩ :=
  ⟨⟨f, _, h1, h2, h3, h4, rfl, fun h => by cases h⟩, _, h5, rfl, fun κ' h => by injection h with h; rw [h], fun h => by (cases h), fun h => by (cases h), fun h => by cases h⟩
theorem tyOk_bool {P : Program} {t : Nat} {f : TypeInfo} {b : Nat} (h1 : P.info? t = some f) (h2 : f.size = 1) (h3 : f.bytes = b) (h4 : f.zero = some (.bool false)) (h5 : P.underlying t = some .bool) : TyOk P t ⟨false, .bool, b, []⟩ :=
  ⟨⟨f, _, h1, h2, h3, h4, rfl, fun h => by cases h⟩, _, h5, rfl, fun κ' h => by (cases h), fun h => rfl, fun h => by (cases h), fun h => by cases h⟩
theorem tyOk_str {P : Program} {t : Nat} {f : TypeInfo} {b : Nat} (h1 : P.info? t = some f) (h2 : f.size = 1) (h3 : f.bytes = b) (h4 : f.zero = some (.string ⟨#[]⟩)) (h5 : P.underlying t = some .string) : TyOk P t ⟨false, .str, b, []⟩ :=
  ⟨⟨f, _, h1, h2, h3, h4, rfl, fun h => by cases h⟩, _, h5, rfl, fun κ' h => by (cases h), fun h => by (cases h), fun h => rfl, fun h => by cases h⟩
theorem tyOk_sl {P : Program} {t e : Nat} {k : K} {f : TypeInfo} {b : Nat} (h1 : P.info? t = some f) (h2 : f.size = 1) (h3 : f.bytes = b) (h4 : f.zero = some (.slice none 0 0)) (h5 : P.underlying t = some (.slice e)) : TyOk P t ⟨false, .sl e k, b, []⟩ :=
  ⟨⟨f, _, h1, h2, h3, h4, rfl, fun h => by cases h⟩, _, h5, rfl, fun κ' h => by (cases h), fun h => by (cases h), fun h => by (cases h), fun h => by cases h⟩

end Go.Proofs.Ytlgbhpphfimdbaa.Ev
