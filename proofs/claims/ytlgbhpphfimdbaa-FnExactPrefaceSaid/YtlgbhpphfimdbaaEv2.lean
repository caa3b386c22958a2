/- The abstract state of a function's run, and when a machine's frame and memory agree with it. -/
import Derived.Test.YtlgbhpphfimdbaaEv1
namespace Go.Proofs.Ytlgbhpphfimdbaa.Ev
set_option linter.unusedVariables false
set_option linter.unusedSimpArgs false

/-- One cell's abstract value. -/
inductive Lf where
  | int (k : IntKind) (n : Int)
  | bool (b : Bool)
  | str (s : ByteArray)
  | nil
  | ro (e : Nat) (k : K) (xs : List k.T)
  | own (id : Nat)
  | vw (id : Nat) (lo hi : Nat)
  | sub (id q off ver : Nat)
  | ptr (b off : Nat)
  | ept (id q off : Nat)
  | rpt (k : K) (x : k.T) (off : Nat)
  | fn (f : Nat)
  | anyb

inductive AV where
  | one (v : Lf)
  | agg (vs : List Lf)
  | tup (vs : List (Bool × List Lf))
  | und

structure Row where
  e : Nat
  k : K
  xs : List k.T
  ver : Nat

inductive LV where
  | t (v : AV)
  | r (row : Row)
  | b (cells : List Lf)
  | x (i : Int)

inductive Loc where
  | t (n : Nat)
  | r (n : Nat)
  | b (n : Nat)
  | x (n : Nat)
  deriving DecidableEq

def Loc.eqb : Loc → Loc → Bool
  | .t i, .t j => Nat.beq i j
  | .r i, .r j => Nat.beq i j
  | .b i, .b j => Nat.beq i j
  | .x i, .x j => Nat.beq i j
  | _, _ => false

theorem Loc.eqb_iff {a b : Loc} : a.eqb b = true ↔ a = b := by
  cases a <;> cases b <;> simp [Loc.eqb, Nat.beq_eq]

theorem Loc.eqb_false {a b : Loc} : a.eqb b = false ↔ a ≠ b := by
  rw [Ne, ← Loc.eqb_iff]; simp

abbrev St := List (Loc × Option LV)

def St.get : St → Loc → Option LV
  | [], _ => none
  | (l, v) :: s, m => match l.eqb m with
    | true => v
    | false => St.get s m

theorem St.get_cons_same (l : Loc) (v : Option LV) (s : St) : St.get ((l, v) :: s) l = v := by
  simp only [St.get, Loc.eqb_iff.2 rfl]
theorem St.get_cons_ne {l m : Loc} (h : l ≠ m) (v : Option LV) (s : St) : St.get ((l, v) :: s) m = St.get s m := by
  simp only [St.get, Loc.eqb_false.2 h]

def St.getT (s : St) (d : Nat) : Option AV := match s.get (.t d) with | some (.t v) => some v | _ => none
def St.getR (s : St) (d : Nat) : Option Row := match s.get (.r d) with | some (.r v) => some v | _ => none
def St.getB (s : St) (d : Nat) : Option (List Lf) := match s.get (.b d) with | some (.b v) => some v | _ => none
def St.getX (s : St) (d : Nat) : Option Int := match s.get (.x d) with | some (.x v) => some v | _ => none

theorem St.getT_some {s : St} {d : Nat} {v : AV} : s.getT d = some v ↔ s.get (.t d) = some (.t v) := by
  unfold St.getT; split
  · rename_i h; rw [h]; simp
  · rename_i h; simp; intro hh; exact h _ hh
theorem St.getR_some {s : St} {d : Nat} {v : Row} : s.getR d = some v ↔ s.get (.r d) = some (.r v) := by
  unfold St.getR; split
  · rename_i h; rw [h]; simp
  · rename_i h; simp; intro hh; exact h _ hh
theorem St.getB_some {s : St} {d : Nat} {v : List Lf} : s.getB d = some v ↔ s.get (.b d) = some (.b v) := by
  unfold St.getB; split
  · rename_i h; rw [h]; simp
  · rename_i h; simp; intro hh; exact h _ hh
theorem St.getX_some {s : St} {d : Nat} {v : Int} : s.getX d = some v ↔ s.get (.x d) = some (.x v) := by
  unfold St.getX; split
  · rename_i h; rw [h]; simp
  · rename_i h; simp; intro hh; exact h _ hh

/-- Where a variable in memory lies: its block, what stands ahead of it and behind it there. -/
structure Plc where
  g : Nat
  t : TypeId
  pre : List Value
  post : List Value

def rowAddr : Value → Addr
  | .slice (some a) _ _ => a
  | _ => ⟨0, 0, none⟩

/-- A cut of a slice. -/
def cutV (size lo hi : Nat) : Value → Value
  | .slice a _ cap => .slice (if cap = lo then a else a.map (·.add (lo * size))) (hi - lo) (cap - lo)
  | v => v

structure Mem where
  w : World
  φ : Col
  ρ : Nat → Value
  β : Nat → Plc

def LfC (s : St) (m : Mem) : Lf → Value → Prop
  | .int k n, v => v = .int k n
  | .bool b, v => v = .bool b
  | .str x, v => v = .string x
  | .nil, v => v = .slice none 0 0
  | .ro e k xs, v => Ro (.rs e k) m.w m.φ xs [v]
  | .own id, v => v.oneCell' = true ∧ ∀ r, s.get (.r id) = some (.r r) → v = m.ρ id
  | .vw id lo hi, v => v.oneCell' = true ∧ ∀ r, s.get (.r id) = some (.r r) → lo ≤ hi ∧ hi ≤ r.xs.length ∧ v = cutV r.k.sz lo hi (m.ρ id)
  | .sub id q off ver, v => v.oneCell' = true ∧ ∀ r i, s.get (.r id) = some (.r r) → s.get (.x q) = some (.x i) → ver ≤ r.ver ∧ (r.ver = ver →
      0 ≤ i ∧ i.toNat < r.xs.length ∧ off < r.k.sz ∧ m.w.cell? ((rowAddr (m.ρ id)).add (i.toNat * r.k.sz + off)) = some v)
  | .ptr b off, v => v.oneCell' = true ∧ ∀ c, s.get (.b b) = some (.b c) → v = .pointer (some ⟨(m.β b).g, (m.β b).pre.length + off, none⟩)
  | .ept id q off, v => v.oneCell' = true ∧ ∀ r i, s.get (.r id) = some (.r r) → s.get (.x q) = some (.x i) →
      0 ≤ i ∧ i.toNat < r.xs.length ∧ v = .pointer (some ((rowAddr (m.ρ id)).add (i.toNat * r.k.sz + off)))
  | .rpt k x off, v => ∃ (ad : Addr) (ds : List Value), Ro k m.w m.φ x ds ∧ m.φ ad.block = none ∧ (∀ j u, ds[j]? = some u → m.w.cell? (ad.add j) = some u) ∧ v = .pointer (some (ad.add off))
  | .fn f, v => v = .func (.func f) #[] #[]
  | .anyb, v => ∃ b, v = .bool b

def All2 {α β : Type} (R : α → β → Prop) : List α → List β → Prop
  | [], [] => True
  | a :: as, b :: bs => R a b ∧ All2 R as bs
  | _, _ => False

theorem All2.len {α β : Type} {R : α → β → Prop} : ∀ {as : List α} {bs : List β}, All2 R as bs → as.length = bs.length
  | [], [], _ => rfl
  | _ :: _, _ :: _, h => by simp only [List.length_cons, All2.len h.2]
theorem All2.imp {α β : Type} {R R' : α → β → Prop} : ∀ {as : List α} {bs : List β}, (∀ a ∈ as, ∀ b, R a b → R' a b) → All2 R as bs → All2 R' as bs
  | [], [], _, _ => trivial
  | a :: as, b :: bs, hi, h => ⟨hi a List.mem_cons_self b h.1, All2.imp (fun a ha b => hi a (List.mem_cons_of_mem _ ha) b) h.2⟩
theorem All2.get {α β : Type} {R : α → β → Prop} : ∀ {as : List α} {bs : List β} {i : Nat} {a : α}, All2 R as bs → as[i]? = some a → ∃ b, bs[i]? = some b ∧ R a b
  | a :: as, b :: bs, 0, x, h, hi => by simp at hi; subst hi; exact ⟨b, rfl, h.1⟩
  | a :: as, b :: bs, i + 1, x, h, hi => by simp at hi; simpa using All2.get h.2 hi
theorem All2.app {α β : Type} {R : α → β → Prop} : ∀ {as : List α} {bs : List β} {cs : List α} {ds : List β}, All2 R as bs → All2 R cs ds → All2 R (as ++ cs) (bs ++ ds)
  | [], [], _, _, _, h => h
  | _ :: _, _ :: _, _, _, h, h' => ⟨h.1, All2.app h.2 h'⟩
theorem All2.take {α β : Type} {R : α → β → Prop} : ∀ {as : List α} {bs : List β} (n : Nat), All2 R as bs → All2 R (as.take n) (bs.take n)
  | _, _, 0, _ => by simp [All2]
  | [], [], _ + 1, _ => by simp [All2]
  | _ :: _, _ :: _, n + 1, h => ⟨h.1, All2.take n h.2⟩
theorem All2.drop {α β : Type} {R : α → β → Prop} : ∀ {as : List α} {bs : List β} (n : Nat), All2 R as bs → All2 R (as.drop n) (bs.drop n)
  | _, _, 0, h => h
  | [], [], _ + 1, _ => by simp [All2]
  | _ :: _, _ :: _, n + 1, h => All2.drop n h.2

def PartC (s : St) (m : Mem) (p : Bool × List Lf) (v : Value) : Prop :=
  match p.1 with
  | true => ∃ cs : List Value, v = .agg cs.toArray ∧ All2 (LfC s m) p.2 cs
  | false => ∃ l, p.2 = [l] ∧ LfC s m l v

def AVC (s : St) (m : Mem) : AV → Value → Prop
  | .one l, v => LfC s m l v
  | .agg ls, v => ∃ cs : List Value, v = .agg cs.toArray ∧ All2 (LfC s m) ls cs
  | .tup ps, v => ∃ vs : List Value, v = .tuple vs.toArray ∧ All2 (PartC s m) ps vs
  | .und, v => v = undef

/-- What a value speaks of. -/
def Lf.men : Lf → List Loc
  | .own id => [.r id]
  | .vw id _ _ => [.r id]
  | .sub id q _ _ => [.r id, .x q]
  | .ptr b _ => [.b b]
  | .ept id q _ => [.r id, .x q]
  | _ => []
def AV.men : AV → List Loc
  | .one l => l.men
  | .agg ls => ls.flatMap Lf.men
  | .tup ps => ps.flatMap fun p => p.2.flatMap Lf.men
  | .und => []
def LV.men : LV → List Loc
  | .t v => v.men
  | .b c => c.flatMap Lf.men
  | _ => []

/-- What l's are there in the new state, and spoken of in the old one, are as they were. -/
structure Ext (s : St) (m : Mem) (s' : St) (m' : Mem) (L : Loc → Prop) : Prop where
  keep : Keeps m.w m'.w m.φ m'.φ
  row : ∀ id r', L (.r id) → s'.get (.r id) = some (.r r') → ∃ r, s.get (.r id) = some (.r r) ∧ m'.ρ id = m.ρ id ∧ r'.k.sz = r.k.sz ∧ r'.xs.length = r.xs.length ∧ r.ver ≤ r'.ver ∧
    (r'.ver = r.ver → 0 < r.xs.length → ∀ j v, m.w.cell? ((rowAddr (m.ρ id)).add j) = some v → m'.w.cell? ((rowAddr (m.ρ id)).add j) = some v)
  box : ∀ b c', L (.b b) → s'.get (.b b) = some (.b c') → ∃ c, s.get (.b b) = some (.b c) ∧ m'.β b = m.β b
  ix : ∀ q i, L (.x q) → s'.get (.x q) = some (.x i) → s.get (.x q) = some (.x i)

theorem Ext.sub {s : St} {m : Mem} {s' : St} {m' : Mem} {L L' : Loc → Prop} (h : Ext s m s' m' L) (hl : ∀ l, L' l → L l) : Ext s m s' m' L' :=
  ⟨h.keep, fun id r' hL => h.row id r' (hl _ hL), fun b c' hL => h.box b c' (hl _ hL), fun q i hL => h.ix q i (hl _ hL)⟩

theorem LfC.ext {s : St} {m : Mem} {s' : St} {m' : Mem} {l : Lf} {v : Value} (h : LfC s m l v) (hx : Ext s m s' m' (· ∈ l.men)) : LfC s' m' l v := by
  cases l with
  | int k n => exact h
  | bool b => exact h
  | str x => exact h
  | nil => exact h
  | fn f => exact h
  | anyb => exact h
  | ro e k xs => exact Ro.keep (k := .rs e k) h hx.keep
  | own id =>
    refine ⟨h.1, fun r' hr' => ?_⟩
    obtain ⟨r, hr, hρ, _⟩ := hx.row id r' (by simp [Lf.men]) hr'
    rw [hρ]; exact h.2 r hr
  | vw id lo hi =>
    refine ⟨h.1, fun r' hr' => ?_⟩
    obtain ⟨r, hr, hρ, hk, hl, _⟩ := hx.row id r' (by simp [Lf.men]) hr'
    obtain ⟨h1, h2, h3⟩ := h.2 r hr
    exact ⟨h1, hl ▸ h2, by rw [hρ, hk]; exact h3⟩
  | sub id q off ver =>
    refine ⟨h.1, fun r' i hr' hi' => ?_⟩
    obtain ⟨r, hr, hρ, hk, hl, hle, hc⟩ := hx.row id r' (by simp [Lf.men]) hr'
    have hi := hx.ix q i (by simp [Lf.men]) hi'
    obtain ⟨h0, h5⟩ := h.2 r i hr hi
    refine ⟨Nat.le_trans h0 hle, fun hv => ?_⟩
    have hvv : r.ver = ver := by omega
    obtain ⟨h1, h2, h3, h4⟩ := h5 hvv
    exact ⟨h1, hl ▸ h2, hk ▸ h3, by rw [hρ, hk]; exact hc (hv.trans hvv.symm) (by omega) _ _ h4⟩
  | ptr b off =>
    refine ⟨h.1, fun c' hc' => ?_⟩
    obtain ⟨c, hc, hβ⟩ := hx.box b c' (by simp [Lf.men]) hc'
    rw [hβ]; exact h.2 c hc
  | ept id q off =>
    refine ⟨h.1, fun r' i hr' hi' => ?_⟩
    obtain ⟨r, hr, hρ, hk, hl, _⟩ := hx.row id r' (by simp [Lf.men]) hr'
    have hi := hx.ix q i (by simp [Lf.men]) hi'
    obtain ⟨h1, h2, h3⟩ := h.2 r i hr hi
    exact ⟨h1, hl ▸ h2, by rw [hρ, hk]; exact h3⟩
  | rpt k x off =>
    obtain ⟨ad, ds, hr, hφ, hc, hv⟩ := h
    have hlen := hr.len
    have hpos := k.sz_pos
    have hlt : ad.block < m.w.heap.size := by
      have := World.block_lt_of_cell? m.w _ (hc 0 ds[0] (by simp [show 0 < ds.length by omega]))
      rwa [add_block] at this
    exact ⟨ad, ds, hr.keep hx.keep, (hx.keep _ hφ hlt).2, fun j u hu => cell_keeps hx.keep (hc j u hu) (by rw [add_block]; exact hφ), hv⟩

end Go.Proofs.Ytlgbhpphfimdbaa.Ev
