/- Operations that change no memory: numbers, texts, structs, reads. -/
import Derived.Test.YtlgbhpphfimdbaaEv3
namespace Go.Proofs.Ytlgbhpphfimdbaa.Ev
set_option linter.unusedVariables false
set_option linter.unusedSimpArgs false

def isAggD : TypeDesc → Bool
  | .struct _ | .array _ _ => true
  | _ => false

/-- What is told of a type: is it a struct, its cells, its bytes; of a struct: each field's first cell, how many, is it a struct. -/
structure TyI where
  agg : Bool
  k : K
  bytes : Nat
  flds : List (Nat × Nat × Bool)

structure Cfg where
  ty : Nat → Option TyI
  el : Nat → Option Nat

/-- The cells of a zero value. -/
def zc : K → List Value
  | .int κ => [.int κ 0]
  | .bool => [.bool false]
  | .str => [.string ⟨#[]⟩]
  | .sl _ _ => [.slice none 0 0]
  | .rs _ _ => [.slice none 0 0]
  | .pair a b => zc a ++ zc b
def zd : (k : K) → k.T
  | .int _ => (0 : Int)
  | .bool => false
  | .str => (⟨#[]⟩ : ByteArray)
  | .sl _ k => ([] : List k.T)
  | .rs _ k => ([] : List k.T)
  | .pair a b => (zd a, zd b)
def zl : K → List Lf
  | .int κ => [.int κ 0]
  | .bool => [.bool false]
  | .str => [.str ⟨#[]⟩]
  | .sl _ _ => [.nil]
  | .rs _ _ => [.nil]
  | .pair a b => zl a ++ zl b

structure FldOk (P : Program) (fd : Field) (f : Nat × Nat × Bool) : Prop where
  off : fd.offset = f.1
  info : ∃ i, P.info? fd.type = some i ∧ i.size = f.2.1
  pos : 0 < f.2.1
  agg : ∃ d, P.underlying fd.type = some d ∧ isAggD d = f.2.2

structure CfgOk (P : Program) (c : Cfg) : Prop where
  info : ∀ {t i}, c.ty t = some i → ∃ f z, P.info? t = some f ∧ f.size = i.k.sz ∧ f.bytes = i.bytes ∧ f.zero = some z ∧ z.cells.toList = zc i.k ∧ (i.agg = true → z = .agg z.cells)
  agg : ∀ {t i}, c.ty t = some i → ∃ d, P.underlying t = some d ∧ isAggD d = i.agg
  st : ∀ {t i}, c.ty t = some i → i.agg = true → ∃ fs, P.underlying t = some (.struct fs) ∧ fs.size = i.flds.length ∧ ∀ (j : Nat) f, i.flds[j]? = some f → ∃ fd, fs[j]? = some fd ∧ FldOk P fd f
  int : ∀ {t i κ}, c.ty t = some i → i.k = .int κ → P.underlying t = some (.int κ)
  bool : ∀ {t i}, c.ty t = some i → i.k = .bool → P.underlying t = some .bool
  str : ∀ {t i}, c.ty t = some i → i.k = .str → P.underlying t = some .string
  el : ∀ {t e}, c.el t = some e → P.underlying t = some (.slice e)

def constAV : Value → Option AV
  | .int k n => some (.one (.int k n))
  | .bool b => some (.one (.bool b))
  | .string s => some (.one (.str s))
  | .slice none 0 0 => some (.one .nil)
  | _ => none

def opnd (s : St) : Operand → Option (AV × List (Loc × LV))
  | .tmp d => match s.getT d with
    | some v => some (v, [(.t d, .t v)])
    | none => none
  | .const c => match constAV c with
    | some v => some (v, [])
    | none => none
  | .func f => some (.one (.fn f), [])
  | .global _ => none

theorem constAV_ok {c : Value} {v : AV} (h : constAV c = some v) (s : St) (m : Mem) : AVC s m v c := by
  unfold constAV at h
  split at h <;> first | (injection h with h; subst h; rfl) | cases h

theorem opnd_ok {s s' : St} {x : Operand} {v : AV} {rd : List (Loc × LV)} (h : opnd s x = some (v, rd)) {n : Nat} {w0 : World} {φ0 : Gh} {a : Act} {m : Mem}
    (hr : Rel n w0 φ0 s' a m) (hrd : Reads s' rd) : AVC s' m v (a.eval x) := by
  cases x with
  | tmp d =>
    simp only [opnd] at h
    split at h
    · rename_i u hu
      injection h with h; injection h with h1 h2; subst h1; subst h2
      exact hr.tm d u (hrd _ List.mem_cons_self)
    · cases h
  | const c =>
    simp only [opnd] at h
    split at h
    · rename_i u hu
      injection h with h; injection h with h1 h2; subst h1; subst h2
      exact constAV_ok hu s' m
    · cases h
  | func f =>
    simp only [opnd] at h
    injection h with h; injection h with h1 h2; subst h1
    rfl
  | global g => simp [opnd] at h

theorem opnd_reads {s : St} {x : Operand} {v : AV} {rd : List (Loc × LV)} (h : opnd s x = some (v, rd)) : Reads s rd := by
  cases x with
  | tmp d =>
    simp only [opnd] at h
    split at h
    · rename_i u hu
      injection h with h; injection h with h1 h2; subst h1; subst h2
      intro p hp; rw [List.mem_singleton.1 hp]; exact St.getT_some.1 hu
    · cases h
  | const c =>
    simp only [opnd] at h
    split at h
    · injection h with h; injection h with h1 h2; subst h2; intro p hp; cases hp
    · cases h
  | func f =>
    simp only [opnd] at h
    injection h with h; injection h with h1 h2; subst h2; intro p hp; cases hp
  | global g => simp [opnd] at h

theorem Reads.app {s : St} {a b : List (Loc × LV)} : Reads s (a ++ b) ↔ Reads s a ∧ Reads s b :=
  ⟨fun h => ⟨fun p hp => h p (List.mem_append_left _ hp), fun p hp => h p (List.mem_append_right _ hp)⟩,
   fun h p hp => (List.mem_append.1 hp).elim (h.1 p) (h.2 p)⟩

/-- The value of a scalar. -/
def lfV : Lf → Option Value
  | .int k n => some (.int k n)
  | .bool b => some (.bool b)
  | .str s => some (.string s)
  | _ => none
def ofV : Value → Option Lf
  | .int k n => some (.int k n)
  | .bool b => some (.bool b)
  | .string s => some (.str s)
  | _ => none

theorem lfV_ok {l : Lf} {v : Value} (h : lfV l = some v) {s : St} {m : Mem} {x : Value} (hx : LfC s m l x) : x = v := by
  cases l <;> simp [lfV] at h <;> subst h <;> exact hx
theorem ofV_ok {l : Lf} {v : Value} (h : ofV v = some l) (s : St) (m : Mem) : LfC s m l v := by
  unfold ofV at h; split at h <;> first | (injection h with h; subst h; rfl) | cases h

/-- An operator of two scalars that has a value whatever they are. -/
def scal2 (op : BinOp) (t : Nat) (x y : Lf) : Option Lf :=
  match lfV x, lfV y with
  | some a, some b => match binOp op t a b with
    | .pure v => ofV v
    | _ => none
  | _, _ => none

theorem scal2_ok {op : BinOp} {t : Nat} {x y l : Lf} (h : scal2 op t x y = some l) {s : St} {m : Mem} {a b : Value} (ha : LfC s m x a) (hb : LfC s m y b) (P : Program) :
    ∃ v, (binOp op t a b).run P m.w = .ok v m.w ∧ LfC s m l v := by
  unfold scal2 at h
  split at h
  · rename_i va vb e1 e2
    rw [lfV_ok e1 ha, lfV_ok e2 hb]
    split at h
    · rename_i v e
      exact ⟨v, by rw [e]; rfl, ofV_ok h s m⟩
    · cases h
  · cases h

theorem eqGuard_sc {op : BinOp} {t : Nat} {x y : Operand} {s : St} {m : Mem} {l : Lf} {a b va : Value} (e : lfV l = some va) (ha : LfC s m l a) (P : Program) :
    (eqGuard op t x y a b).run P m.w = .ok () m.w := by
  rw [lfV_ok e ha]
  unfold eqGuard
  cases l <;> simp [lfV] at e <;> subst e <;> (split <;> simp)

end Go.Proofs.Ytlgbhpphfimdbaa.Ev
