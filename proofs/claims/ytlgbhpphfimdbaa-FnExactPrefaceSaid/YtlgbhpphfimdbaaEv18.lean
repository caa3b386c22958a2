/- Functions' contracts, and how colours go into a call and come back. -/
import Derived.Test.YtlgbhpphfimdbaaEv17
namespace Go.Proofs.Ytlgbhpphfimdbaa.Ev
set_option linter.unusedVariables false
set_option linter.unusedSimpArgs false

/-- Parameters: a value (g: a struct; keep: its rows are handed back, written), or a variable's address. -/
inductive PK where
  | val (g : Bool) (k : K) (keep : Bool)
  | ptr (k : K)

/-- Results: a value, or the address of a new variable. -/
inductive RK where
  | val (g : Bool) (k : K)
  | new (k : K)

@[reducible] def PK.k : PK → K
  | .val _ k _ => k
  | .ptr k => k
@[reducible] def RK.k : RK → K
  | .val _ k => k
  | .new k => k

@[reducible] def Ts : List K → Type
  | [] => Unit
  | k :: ks => k.T × Ts ks

@[reducible] def ins : List PK → List K
  | [] => []
  | p :: ps => p.k :: ins ps
@[reducible] def kk : List PK → List K
  | [] => []
  | .val _ k true :: ps => k :: kk ps
  | .val _ _ false :: ps => kk ps
  | .ptr k :: ps => k :: kk ps
@[reducible] def outs : List RK → List PK → List K
  | [], ps => kk ps
  | r :: rs, ps => r.k :: outs rs ps

/-- Cells of which each slice's row has a root of its own: base + its place. -/
def LvC (w : World) (φ : Col) : Nat → (k : K) → k.T → List Value → Prop
  | _, .int κ, n, cs => cs = [.int κ n]
  | _, .bool, b, cs => cs = [.bool b]
  | _, .str, s, cs => cs = [.string s]
  | base, .sl e k, xs, cs => ∃ v, cs = [v] ∧ OwL (Ow k w φ) e k.sz w φ [2 * base] xs v
  | _, .rs _ k, xs, cs => RoL (Ro k w φ) k.sz w φ xs cs
  | base, .pair a b, x, cs => ∃ c0 c1, cs = c0 ++ c1 ∧ LvC w φ base a x.1 c0 ∧ LvC w φ (base + a.sz) b x.2 c1

theorem LvC.len {w : World} {φ : Col} : ∀ {base : Nat} {k : K} {x : k.T} {cs : List Value}, LvC w φ base k x cs → cs.length = k.sz
  | _, .int _, _, _, h => by simp only [LvC] at h; subst h; rfl
  | _, .bool, _, _, h => by simp only [LvC] at h; subst h; rfl
  | _, .str, _, _, h => by simp only [LvC] at h; subst h; rfl
  | _, .sl _ _, _, _, h => by obtain ⟨v, rfl, _⟩ := h; rfl
  | _, .rs _ _, _, _, h => by obtain ⟨A, c, rfl, _⟩ := h; rfl
  | _, .pair a b, _, _, h => by
    obtain ⟨c0, c1, rfl, h0, h1⟩ := h
    rw [List.length_append, LvC.len h0, LvC.len h1]; rfl

theorem LvC.one {w : World} {φ : Col} : ∀ {base : Nat} {k : K} {x : k.T} {cs : List Value}, LvC w φ base k x cs → ∀ u ∈ cs, u.oneCell' = true
  | _, .int _, _, _, h => by simp only [LvC] at h; subst h; intro u hu; rw [List.mem_singleton.1 hu]; rfl
  | _, .bool, _, _, h => by simp only [LvC] at h; subst h; intro u hu; rw [List.mem_singleton.1 hu]; rfl
  | _, .str, _, _, h => by simp only [LvC] at h; subst h; intro u hu; rw [List.mem_singleton.1 hu]; rfl
  | _, .sl _ _, _, _, h => by obtain ⟨v, rfl, inner, ho, _⟩ := h; intro u hu; rw [List.mem_singleton.1 hu]; exact own_oneCell ho
  | _, .rs _ _, _, _, h => by obtain ⟨A, c, rfl, _⟩ := h; intro u hu; rw [List.mem_singleton.1 hu]; rfl
  | _, .pair a b, _, _, h => by
    obtain ⟨c0, c1, rfl, h0, h1⟩ := h
    intro u hu
    rcases List.mem_append.1 hu with hu | hu
    · exact LvC.one h0 u hu
    · exact LvC.one h1 u hu

/-- A value of its cells. -/
def toV (g : Bool) (cs : List Value) : Value := match g with
  | true => .agg cs.toArray
  | false => match cs with
    | [c] => c
    | cs => .agg cs.toArray

structure Fn where
  ps : List PK
  res : List RK
  fn : Ts (ins ps) → Option (Ts (outs res ps))

/-- Roots: of parameter i's rows and its variable, of result j's rows and its variable. -/
@[reducible] def pR (i : Nat) : Nat := 1000 + 100 * i
@[reducible] def pB (i : Nat) : Nat := 1000 + i
@[reducible] def rR (j : Nat) : Nat := 5000 + 100 * j
@[reducible] def rB (j : Nat) : Nat := 5000 + j

/-- A variable's cells, at its place. -/
def VarC (w : World) (φ : Col) (pl : Plc) (root : Nat) (cs : List Value) : Prop :=
  w.heap[pl.g]? = some (.cells (pl.pre ++ cs ++ pl.post).toArray pl.t (0, 0)) ∧ φ pl.g = some [2 * root + 1]

def ArgsC (w : World) (φ : Col) (pls : Nat → Plc) : Nat → (ps : List PK) → Ts (ins ps) → List Value → Prop
  | _, [], _, vs => vs = []
  | i, .val g k _ :: ps, x, vs => ∃ cs r, vs = toV g cs :: r ∧ LvC w φ (pR i) k x.1 cs ∧ (g = true ∨ k.sz = 1) ∧ ArgsC w φ pls (i + 1) ps x.2 r
  | i, .ptr k :: ps, x, vs => ∃ cs r, vs = .pointer (some ⟨(pls i).g, (pls i).pre.length, none⟩) :: r ∧ VarC w φ (pls i) (pB i) cs ∧ LvC w φ (pR i) k x.1 cs ∧ ArgsC w φ pls (i + 1) ps x.2 r

def KeptC (w : World) (φ : Col) (pls : Nat → Plc) : Nat → (ps : List PK) → Ts (kk ps) → List Value → Prop
  | _, [], _, vs => vs = []
  | i, .val g k true :: ps, x, vs => ∃ cs r, vs = toV g cs :: r ∧ LvC w φ (pR i) k x.1 cs ∧ (g = true ∨ k.sz = 1) ∧ KeptC w φ pls (i + 1) ps x.2 r
  | i, .val _ _ false :: ps, x, vs => ∃ v r, vs = v :: r ∧ KeptC w φ pls (i + 1) ps x r
  | i, .ptr k :: ps, x, vs => ∃ cs v r, vs = v :: r ∧ VarC w φ (pls i) (pB i) cs ∧ LvC w φ (pR i) k x.1 cs ∧ KeptC w φ pls (i + 1) ps x.2 r

def OutC (w : World) (φ : Col) (pls : Nat → Plc) (ps : List PK) (args : List Value) : Nat → (res : List RK) → Ts (outs res ps) → List Value → Prop
  | _, [], x, vs => vs = [] ∧ KeptC w φ pls 0 ps x args
  | j, .val g k :: res, x, vs => ∃ cs r, vs = toV g cs :: r ∧ LvC w φ (rR j) k x.1 cs ∧ (g = true ∨ k.sz = 1) ∧ OutC w φ pls ps args (j + 1) res x.2 r
  | j, .new k :: res, x, vs => ∃ b T cs r, vs = .pointer (some ⟨b, 0, none⟩) :: r ∧ VarC w φ ⟨b, T, [], []⟩ (rB j) cs ∧ LvC w φ (rR j) k x.1 cs ∧ OutC w φ pls ps args (j + 1) res x.2 r

def pack : List Value → Value
  | [v] => v
  | vs => .tuple vs.toArray

structure Later (w w' : World) : Prop where
  size : w.heap.size ≤ w'.heap.size
  os : w'.os = w.os
  tape : w'.tape = w.tape
  output : w'.output = w.output

/-- What a function does, whatever its place in memory. -/
def Sound (P : Program) (f : Nat) (F : Fn) : Prop :=
  ∀ x y, F.fn x = some y → ∀ (w : World) (φ : Col) (pls : Nat → Plc) (args : List Value), ArgsC w φ pls 0 F.ps x args →
    Calls P f args.toArray w fun e w' => ∃ φ' vals, e = .returned (pack vals) ∧ Keeps w w' φ φ' ∧ Fore w w' φ φ' ∧ Later w w' ∧ OutC w' φ' pls F.ps args 0 F.res y vals

/-- Roots renamed. -/
def rootL : List (Nat × Nat) → Nat → Option Nat
  | [], _ => none
  | (a, b) :: t, r => if a = r then some b else rootL t r

/-- The callee's colours: what it is given has roots of its own; what it reads (br: its roots) is nobody's, as what was; all else is another's. -/
def calCol (tg : List (Nat × Nat)) (br : List Nat) (φ : Col) : Col := fun b => match φ b with
  | none => none
  | some [] => some []
  | some (r :: q) => match rootL tg r with
    | some r' => some (r' :: q)
    | none => if r ∈ br then none else some []

/-- What a call has no leave to touch. -/
def Shut (c : Option Path) : Prop := c = none ∨ c = some []

def bkC (bk : List (Nat × Nat)) : Path → Option Path
  | [] => none
  | r :: q => match rootL bk r with
    | some r' => some (r' :: q)
    | none => none

/-- The colours behind a call. -/
def combC (n : Nat) (φ φc φ' : Col) (bk : List (Nat × Nat)) : Col := fun b =>
  match φc b with
  | none => if b < n then φ b else (φ' b).bind (bkC bk)
  | some [] => if b < n then φ b else (φ' b).bind (bkC bk)
  | some (_ :: _) => (φ' b).bind (bkC bk)

theorem comb_old {n : Nat} {φ φc φ' : Col} {bk : List (Nat × Nat)} {b : Nat} (h : Shut (φc b)) (hb : b < n) : combC n φ φc φ' bk b = φ b := by
  rcases h with h | h <;> simp only [combC, h, if_pos hb]

theorem shut_same {w w' : World} {φc φ' : Col} (hk : Keeps w w' φc φ') (hf : Fore w w' φc φ') {b : Nat} (h : Shut (φc b)) (hb : b < w.heap.size) : w'.heap[b]? = w.heap[b]? ∧ φ' b = φc b := by
  rcases h with h | h
  · obtain ⟨e, e1⟩ := hk b h hb; exact ⟨e, e1.trans h.symm⟩
  · obtain ⟨e, e1⟩ := hf b h hb; exact ⟨e, e1.trans h.symm⟩

theorem comb_new {w w' : World} {φ φc φ' : Col} {bk : List (Nat × Nat)} (hk : Keeps w w' φc φ') (hf : Fore w w' φc φ') {r : Nat} {q : Path} {b : Nat} (hb : φ' b = some (r :: q)) : combC w.heap.size φ φc φ' bk b = bkC bk (r :: q) := by
  have hns : ¬ (Shut (φc b) ∧ b < w.heap.size) := fun h => by
    have := (shut_same hk hf h.1 h.2).2
    rw [hb] at this
    rcases h.1 with h1 | h1 <;> rw [h1] at this <;> cases this
  have hbd : (φ' b).bind (bkC bk) = bkC bk (r :: q) := by rw [hb]; rfl
  simp only [combC]
  split
  · rename_i hc
    rw [if_neg fun hlt => hns ⟨.inl hc, hlt⟩, hbd]
  · rename_i hc
    rw [if_neg fun hlt => hns ⟨.inr hc, hlt⟩, hbd]
  · exact hbd

/-- A root comes back under its new name. -/
theorem comb_back {w w' : World} {φ φc φ' : Col} {bk : List (Nat × Nat)} (hk : Keeps w w' φc φ') (hf : Fore w w' φc φ') {r r' : Nat} (hl : rootL bk r = some r') (p : Path) :
    Moves w' w' φ' (combC w.heap.size φ φc φ' bk) (r :: p) (r' :: p) := by
  intro b q hb hlt
  refine ⟨rfl, ?_⟩
  have hb' : φ' b = some (r :: (p ++ q)) := hb
  rw [comb_new hk hf hb']
  simp only [bkC, hl, List.cons_append]

/-- Where nothing was lent, what is nobody's stays so. -/
theorem comb_none {w w' : World} {φ φ' : Col} {tg : List (Nat × Nat)} {bk : List (Nat × Nat)} (hf : Fore w w' (calCol tg [] φ) φ') :
    Keeps w' w' φ' (combC w.heap.size φ (calCol tg [] φ) φ' bk) := by
  intro b hb hlt
  refine ⟨rfl, ?_⟩
  have hcn : calCol tg [] φ b = none → φ b = none := by
    intro hc
    simp only [calCol] at hc
    split at hc
    · assumption
    · cases hc
    · split at hc
      · cases hc
      · simp at hc
  simp only [combC]
  split
  · rename_i hc
    split
    · exact hcn hc
    · rw [hb]; rfl
  · rename_i hc
    split
    · rename_i hl
      rw [(hf b hc hl).2] at hb; cases hb
    · rw [hb]; rfl
  · rw [hb]; rfl

theorem cal_none {tg : List (Nat × Nat)} {br : List Nat} {φ : Col} {b : Nat} (h : φ b = none) : calCol tg br φ b = none := by simp only [calCol, h]

theorem cal_keeps (w : World) (tg : List (Nat × Nat)) (br : List Nat) (φ : Col) : Keeps w w φ (calCol tg br φ) := fun b hb _ => ⟨rfl, cal_none hb⟩

theorem comb_keeps {w w' : World} {φ φ' : Col} {tg : List (Nat × Nat)} {br : List Nat} {bk : List (Nat × Nat)} (hk : Keeps w w' (calCol tg br φ) φ') :
    Keeps w w' φ (combC w.heap.size φ (calCol tg br φ) φ' bk) := by
  intro b hb hlt
  have hc := cal_none (tg := tg) (br := br) hb
  exact ⟨(hk b hc hlt).1, by rw [comb_old (.inl hc) hlt]; exact hb⟩

theorem comb_fore {w w' : World} {φ φ' : Col} {tg : List (Nat × Nat)} {br : List Nat} {bk : List (Nat × Nat)} (hf : Fore w w' (calCol tg br φ) φ') :
    Fore w w' φ (combC w.heap.size φ (calCol tg br φ) φ' bk) := by
  intro b hb hlt
  have hc : calCol tg br φ b = some [] := by simp only [calCol, hb]
  exact ⟨(hf b hc hlt).1, by rw [comb_old (.inr hc) hlt]; exact hb⟩

/-- Roots that are not handed over stay. -/
theorem cal_shut {tg : List (Nat × Nat)} {br : List Nat} {φ : Col} {b r : Nat} {q : Path} (h : φ b = some (r :: q)) (hn : rootL tg r = none) : Shut (calCol tg br φ b) := by
  simp only [calCol, h, hn]
  split
  · exact .inl rfl
  · exact .inr rfl

theorem cal_moves (w : World) {tg : List (Nat × Nat)} {br : List Nat} {φ : Col} {r r' : Nat} (h : rootL tg r = some r') (p : Path) : Moves w w φ (calCol tg br φ) (r :: p) (r' :: p) := by
  intro b q hb _
  have hb' : φ b = some (r :: (p ++ q)) := hb
  exact ⟨rfl, by simp only [calCol, hb', h, List.cons_append]⟩

theorem cal_frees (w : World) {tg : List (Nat × Nat)} {br : List Nat} {φ : Col} {r : Nat} (h : rootL tg r = none) (hb : r ∈ br) (p : Path) : Frees w w φ (calCol tg br φ) (r :: p) := by
  intro b q hb' _
  have hb'' : φ b = some (r :: (p ++ q)) := hb'
  exact ⟨rfl, by simp only [calCol, hb'', h, if_pos hb]⟩

/-- A root that is not handed over: as it was behind the call. -/
theorem comb_stay {w w' : World} {φ φ' : Col} {tg : List (Nat × Nat)} {br : List Nat} {bk : List (Nat × Nat)} (hk : Keeps w w' (calCol tg br φ) φ') (hf : Fore w w' (calCol tg br φ) φ') {r : Nat} (hn : rootL tg r = none) (p : Path) :
    Moves w w' φ (combC w.heap.size φ (calCol tg br φ) φ' bk) (r :: p) (r :: p) := by
  intro b q hb hlt
  have hb' : φ b = some (r :: (p ++ q)) := hb
  have hs := cal_shut (tg := tg) (br := br) hb' hn
  exact ⟨(shut_same hk hf hs hlt).1, by rw [comb_old hs hlt]; exact hb⟩

end Go.Proofs.Ytlgbhpphfimdbaa.Ev
