/- Kinds of data, how a value represents them in memory (read: Ro; owned: Ow), and how the two are kept. No program is in sight. -/
import Derived.Test.YtlgbhpphfimdbaaEv0
import Derived.Laws.AppendOwn
import Derived.Laws.AppendOwnNone
import Derived.Laws.OwnMore
import Derived.Laws.MakeOwn
import Derived.Laws.BytesArg
import Derived.Laws.Rows
import Derived.KernelRfl
namespace Go.Proofs.Ytlgbhpphfimdbaa.Ev
set_option linter.unusedVariables false
set_option linter.unusedSimpArgs false

/-- Kinds: whole numbers, bools, strings; slices that are owned (sl) or only read (rs), with their element's type; two in line. -/
inductive K where
  | int (k : IntKind)
  | bool
  | str
  | sl (e : Nat) (k : K)
  | rs (e : Nat) (k : K)
  | pair (a b : K)
  deriving DecidableEq

@[reducible] def K.T : K → Type
  | .int _ => Int
  | .bool => Bool
  | .str => ByteArray
  | .sl _ k => List k.T
  | .rs _ k => List k.T
  | .pair a b => a.T × b.T

def K.sz : K → Nat
  | .pair a b => a.sz + b.sz
  | _ => 1

theorem K.sz_pos : ∀ k : K, 0 < k.sz
  | .int _ => Nat.one_pos
  | .bool => Nat.one_pos
  | .str => Nat.one_pos
  | .sl _ _ => Nat.one_pos
  | .rs _ _ => Nat.one_pos
  | .pair a b => by have := K.sz_pos a; simp only [K.sz]; omega

abbrev Path := List Nat
abbrev Col := Nat → Option Path

/-- A slice that is read: its cells lie in blocks that nobody owns here. -/
def RoL {α : Type} (R : α → List Value → Prop) (sz : Nat) (w : World) (φ : Col) (xs : List α) (cs : List Value) : Prop :=
  ∃ A c, cs = [.slice A xs.length c] ∧ xs.length ≤ c ∧ c ≤ maxLen ∧
    (0 < xs.length → ∃ ad : Addr, A = some ad ∧ φ ad.block = none ∧
      ∀ i (h : i < xs.length), ∃ ds, ds.length = sz ∧ R xs[i] ds ∧ ∀ j u, ds[j]? = some u → w.cell? (ad.add (i * sz + j)) = some u)

def Ro : (k : K) → World → Col → k.T → List Value → Prop
  | .int κ, _, _, n, cs => cs = [.int κ n]
  | .bool, _, _, b, cs => cs = [.bool b]
  | .str, _, _, s, cs => cs = [.string s]
  | .sl _ k, w, φ, xs, cs => RoL (Ro k w φ) k.sz w φ xs cs
  | .rs _ k, w, φ, xs, cs => RoL (Ro k w φ) k.sz w φ xs cs
  | .pair a b, w, φ, x, cs => ∃ c0 c1, cs = c0 ++ c1 ∧ Ro a w φ x.1 c0 ∧ Ro b w φ x.2 c1

/-- A slice of one's own at path p. -/
def OwL {α : Type} (R : Path → α → List Value → Prop) (e sz : Nat) (w : World) (φ : Col) (p : Path) (xs : List α) (v : Value) : Prop :=
  ∃ inner, owns w 0 e sz v xs.length inner ∧ (∀ g, v.ownBlock = some g → φ g = some p) ∧
    ∀ i (h : i < xs.length), R (p ++ [i]) xs[i] ((inner.drop (i * sz)).take sz)

def Ow : (k : K) → World → Col → Path → k.T → List Value → Prop
  | .int κ, _, _, _, n, cs => cs = [.int κ n]
  | .bool, _, _, _, b, cs => cs = [.bool b]
  | .str, _, _, _, s, cs => cs = [.string s]
  | .sl e k, w, φ, p, xs, cs => ∃ v, cs = [v] ∧ OwL (Ow k w φ) e k.sz w φ p xs v
  | .rs _ k, w, φ, _, xs, cs => RoL (Ro k w φ) k.sz w φ xs cs
  | .pair a b, w, φ, p, x, cs => ∃ c0 c1, cs = c0 ++ c1 ∧ Ow a w φ (p ++ [0]) x.1 c0 ∧ Ow b w φ (p ++ [1]) x.2 c1

theorem Ro.len : ∀ {k : K} {w φ x cs}, Ro k w φ x cs → cs.length = k.sz
  | .int _, _, _, _, _, h => by simp only [Ro] at h; subst h; rfl
  | .bool, _, _, _, _, h => by simp only [Ro] at h; subst h; rfl
  | .str, _, _, _, _, h => by simp only [Ro] at h; subst h; rfl
  | .sl _ _, _, _, _, _, h => by obtain ⟨A, c, rfl, _⟩ := h; rfl
  | .rs _ _, _, _, _, _, h => by obtain ⟨A, c, rfl, _⟩ := h; rfl
  | .pair a b, _, _, _, _, h => by
    obtain ⟨c0, c1, rfl, h0, h1⟩ := h
    rw [List.length_append, Ro.len h0, Ro.len h1]; rfl

theorem Ow.len : ∀ {k : K} {w φ p x cs}, Ow k w φ p x cs → cs.length = k.sz
  | .int _, _, _, _, _, _, h => by simp only [Ow] at h; subst h; rfl
  | .bool, _, _, _, _, _, h => by simp only [Ow] at h; subst h; rfl
  | .str, _, _, _, _, _, h => by simp only [Ow] at h; subst h; rfl
  | .sl _ _, _, _, _, _, _, h => by obtain ⟨v, rfl, _⟩ := h; rfl
  | .rs _ _, _, _, _, _, _, h => by obtain ⟨A, c, rfl, _⟩ := h; rfl
  | .pair a b, _, _, _, _, _, h => by
    obtain ⟨c0, c1, rfl, h0, h1⟩ := h
    rw [List.length_append, Ow.len h0, Ow.len h1]; rfl

theorem own_oneCell {w : World} {b e s n : Nat} {v : Value} {xs : List Value} (h : owns w b e s v n xs) : v.oneCell' = true := by
  rcases h.2 with ⟨rfl, _⟩ | ⟨g, cap, cur, fz, rfl, _⟩ <;> rfl

theorem Ro.one : ∀ {k : K} {w φ x cs}, Ro k w φ x cs → ∀ u ∈ cs, u.oneCell' = true
  | .int _, _, _, _, _, h => by simp only [Ro] at h; subst h; intro u hu; rw [List.mem_singleton.1 hu]; rfl
  | .bool, _, _, _, _, h => by simp only [Ro] at h; subst h; intro u hu; rw [List.mem_singleton.1 hu]; rfl
  | .str, _, _, _, _, h => by simp only [Ro] at h; subst h; intro u hu; rw [List.mem_singleton.1 hu]; rfl
  | .sl _ _, _, _, _, _, h => by obtain ⟨A, c, rfl, _⟩ := h; intro u hu; rw [List.mem_singleton.1 hu]; rfl
  | .rs _ _, _, _, _, _, h => by obtain ⟨A, c, rfl, _⟩ := h; intro u hu; rw [List.mem_singleton.1 hu]; rfl
  | .pair a b, _, _, _, _, h => by
    obtain ⟨c0, c1, rfl, h0, h1⟩ := h
    intro u hu
    rcases List.mem_append.1 hu with hu | hu
    · exact Ro.one h0 u hu
    · exact Ro.one h1 u hu

theorem Ow.one : ∀ {k : K} {w φ p x cs}, Ow k w φ p x cs → ∀ u ∈ cs, u.oneCell' = true
  | .int _, _, _, _, _, _, h => by simp only [Ow] at h; subst h; intro u hu; rw [List.mem_singleton.1 hu]; rfl
  | .bool, _, _, _, _, _, h => by simp only [Ow] at h; subst h; intro u hu; rw [List.mem_singleton.1 hu]; rfl
  | .str, _, _, _, _, _, h => by simp only [Ow] at h; subst h; intro u hu; rw [List.mem_singleton.1 hu]; rfl
  | .sl _ _, _, _, _, _, _, h => by
    obtain ⟨v, rfl, inner, ho, _⟩ := h; intro u hu; rw [List.mem_singleton.1 hu]; exact own_oneCell ho
  | .rs _ _, _, _, _, _, _, h => by obtain ⟨A, c, rfl, _⟩ := h; intro u hu; rw [List.mem_singleton.1 hu]; rfl
  | .pair a b, _, _, _, _, _, h => by
    obtain ⟨c0, c1, rfl, h0, h1⟩ := h
    intro u hu
    rcases List.mem_append.1 hu with hu | hu
    · exact Ow.one h0 u hu
    · exact Ow.one h1 u hu

/-- What nobody owns stays so, and as it is. -/
def Keeps (w w' : World) (φ φ' : Col) : Prop := ∀ b, φ b = none → b < w.heap.size → w'.heap[b]? = w.heap[b]? ∧ φ' b = none

/-- What is another's (the empty path) stays so, and as it is. -/
def Fore (w w' : World) (φ φ' : Col) : Prop := ∀ b, φ b = some [] → b < w.heap.size → w'.heap[b]? = w.heap[b]? ∧ φ' b = some []
theorem Fore.refl (w : World) (φ : Col) : Fore w w φ φ := fun _ h _ => ⟨rfl, h⟩
theorem Fore.trans {w w1 w2 : World} {φ φ1 φ2 : Col} (h : Fore w w1 φ φ1) (h1 : Fore w1 w2 φ1 φ2) (hs : w.heap.size ≤ w1.heap.size) : Fore w w2 φ φ2 :=
  fun b hb hlt => let ⟨e, c⟩ := h b hb hlt; let ⟨e1, c1⟩ := h1 b c (Nat.lt_of_lt_of_le hlt hs); ⟨e1.trans e, c1⟩

theorem Keeps.refl (w : World) (φ : Col) : Keeps w w φ φ := fun _ h _ => ⟨rfl, h⟩
theorem Keeps.trans {w w1 w2 : World} {φ φ1 φ2 : Col} (h : Keeps w w1 φ φ1) (h1 : Keeps w1 w2 φ1 φ2) (hs : w.heap.size ≤ w1.heap.size) : Keeps w w2 φ φ2 :=
  fun b hb hlt => let ⟨e, c⟩ := h b hb hlt; let ⟨e1, c1⟩ := h1 b c (Nat.lt_of_lt_of_le hlt hs); ⟨e1.trans e, c1⟩

theorem cell_keeps {w w' : World} {φ φ' : Col} (hk : Keeps w w' φ φ') {a : Addr} {v : Value} (h : w.cell? a = some v) (hφ : φ a.block = none) : w'.cell? a = some v :=
  (World.cell?_of_block (hk a.block hφ (World.block_lt_of_cell? w a h)).1).trans h

theorem add_block (a : Addr) (n : Nat) : (a.add n).block = a.block := by unfold Addr.add; split <;> rfl

theorem RoL.keep {α : Type} {R R' : α → List Value → Prop} {sz : Nat} {w w' : World} {φ φ' : Col} {xs : List α} {cs : List Value}
    (h : RoL R sz w φ xs cs) (hsz : 0 < sz) (hk : Keeps w w' φ φ') (hR : ∀ x ds, R x ds → R' x ds) : RoL R' sz w' φ' xs cs := by
  obtain ⟨A, c, rfl, hl, hm, hc⟩ := h
  refine ⟨A, c, rfl, hl, hm, fun hn => ?_⟩
  obtain ⟨ad, rfl, hφ, hi⟩ := hc hn
  refine ⟨ad, rfl, ?_, fun i h => ?_⟩
  · obtain ⟨ds, hd, _, hcell⟩ := hi 0 hn
    have h0 : 0 < ds.length := by omega
    have := hcell 0 ds[0] (by simp [h0])
    have hlt := World.block_lt_of_cell? w _ this
    rw [add_block] at hlt
    exact (hk _ hφ hlt).2
  · obtain ⟨ds, hd, hr, hcell⟩ := hi i h
    exact ⟨ds, hd, hR _ _ hr, fun j u hu => cell_keeps hk (hcell j u hu) (by rw [add_block]; exact hφ)⟩

theorem Ro.keep : ∀ {k : K} {w w' : World} {φ φ' : Col} {x cs}, Ro k w φ x cs → Keeps w w' φ φ' → Ro k w' φ' x cs
  | .int _, _, _, _, _, _, _, h, _ => h
  | .bool, _, _, _, _, _, _, h, _ => h
  | .str, _, _, _, _, _, _, h, _ => h
  | .sl _ k, _, _, _, _, _, _, h, hk => RoL.keep h k.sz_pos hk fun _ _ hr => Ro.keep hr hk
  | .rs _ k, _, _, _, _, _, _, h, hk => RoL.keep h k.sz_pos hk fun _ _ hr => Ro.keep hr hk
  | .pair _ _, _, _, _, _, _, _, h, hk => by
    obtain ⟨c0, c1, rfl, h0, h1⟩ := h
    exact ⟨c0, c1, rfl, Ro.keep h0 hk, Ro.keep h1 hk⟩

/-- The blocks from path p on go to path p', unchanged. -/
def Moves (w w' : World) (φ φ' : Col) (p p' : Path) : Prop := ∀ b q, φ b = some (p ++ q) → b < w.heap.size → w'.heap[b]? = w.heap[b]? ∧ φ' b = some (p' ++ q)

theorem Moves.sub {w w' : World} {φ φ' : Col} {p p' : Path} (h : Moves w w' φ φ' p p') (q : Path) : Moves w w' φ φ' (p ++ q) (p' ++ q) := by
  intro b r hb hlt
  have := h b (q ++ r) (by rw [← List.append_assoc]; exact hb) hlt
  rw [← List.append_assoc] at this
  exact this

theorem own_block_lt {w : World} {b e s n : Nat} {v : Value} {xs : List Value} (h : owns w b e s v n xs) {g : Nat} (hg : v.ownBlock = some g) : g < w.heap.size := (owns_lt h g hg).2

theorem owns_same {w w' : World} {b e s n : Nat} {v : Value} {xs : List Value} (h : owns w b e s v n xs) (hm : ∀ g, v.ownBlock = some g → w'.heap[g]? = w.heap[g]?) : owns w' b e s v n xs := by
  obtain ⟨h1, h2⟩ := h
  refine ⟨h1, ?_⟩
  rcases h2 with h2 | ⟨g, cap, cur, fz, rfl, hg, hh, r⟩
  · exact .inl h2
  · exact .inr ⟨g, cap, cur, fz, rfl, hg, (hm g (by simp [Value.ownBlock])).trans hh, r⟩

theorem Ow.move : ∀ {k : K} {w w' : World} {φ φ' : Col} {p p' : Path} {x cs}, Ow k w φ p x cs → Moves w w' φ φ' p p' → Keeps w w' φ φ' → Ow k w' φ' p' x cs
  | .int _, _, _, _, _, _, _, _, _, h, _, _ => h
  | .bool, _, _, _, _, _, _, _, _, h, _, _ => h
  | .str, _, _, _, _, _, _, _, _, h, _, _ => h
  | .rs _ k, _, _, _, _, _, _, _, _, h, _, hk => RoL.keep h k.sz_pos hk fun _ _ hr => Ro.keep hr hk
  | .sl e k, w, w', φ, φ', p, p', xs, cs, h, hm, hk => by
    obtain ⟨v, rfl, inner, ho, hc, hi⟩ := h
    refine ⟨v, rfl, inner, owns_same ho fun g hg => ?_, fun g hg => ?_, fun i h => Ow.move (hi i h) (hm.sub [i]) hk⟩
    · exact (hm g [] (by rw [List.append_nil]; exact hc g hg) (own_block_lt ho hg)).1
    · have := (hm g [] (by rw [List.append_nil]; exact hc g hg) (own_block_lt ho hg)).2
      rwa [List.append_nil] at this
  | .pair _ _, _, _, _, _, _, _, _, _, h, hm, hk => by
    obtain ⟨c0, c1, rfl, h0, h1⟩ := h
    exact ⟨c0, c1, rfl, Ow.move h0 (hm.sub [0]) hk, Ow.move h1 (hm.sub [1]) hk⟩

/-- The blocks from path p on stay as they are and are nobody's from now on. -/
def Frees (w w' : World) (φ φ' : Col) (p : Path) : Prop := ∀ b q, φ b = some (p ++ q) → b < w.heap.size → w'.heap[b]? = w.heap[b]? ∧ φ' b = none

theorem Frees.sub {w w' : World} {φ φ' : Col} {p : Path} (h : Frees w w' φ φ' p) (q : Path) : Frees w w' φ φ' (p ++ q) :=
  fun b r hb hlt => h b (q ++ r) (by rw [← List.append_assoc]; exact hb) hlt

theorem Ow.free : ∀ {k : K} {w w' : World} {φ φ' : Col} {p : Path} {x cs}, Ow k w φ p x cs → Frees w w' φ φ' p → Keeps w w' φ φ' → Ro k w' φ' x cs
  | .int _, _, _, _, _, _, _, _, h, _, _ => h
  | .bool, _, _, _, _, _, _, _, h, _, _ => h
  | .str, _, _, _, _, _, _, _, h, _, _ => h
  | .rs _ k, _, _, _, _, _, _, _, h, _, hk => RoL.keep h k.sz_pos hk fun _ _ hr => Ro.keep hr hk
  | .sl e k, w, w', φ, φ', p, xs, cs, h, hm, hk => by
    obtain ⟨v, rfl, inner, ho, hc, hi⟩ := h
    have hl := ho.1
    rcases ho.2 with ⟨rfl, hn⟩ | ⟨g, cap, cur, fz, rfl, _, hg, hfz, hn, hcap, hs, ht⟩
    · exact ⟨none, 0, by rw [hn], by rw [hn]; exact Nat.le_refl _, Nat.zero_le _, fun h => by omega⟩
    · have hlt : g < w.heap.size := own_block_lt ho rfl
      have hgb := hm g [] (by rw [List.append_nil]; exact hc g rfl) hlt
      refine ⟨some ⟨g, 0, none⟩, cap, rfl, hn, hcap, fun _ => ⟨⟨g, 0, none⟩, rfl, hgb.2, fun i h => ?_⟩⟩
      have hik := hi i h
      refine ⟨_, Ow.len hik, Ow.free hik (hm.sub [i]) hk, fun j u hu => ?_⟩
      have hsz := k.sz_pos
      have hj : j < k.sz := by
        have := (List.getElem?_eq_some_iff.1 hu).1
        rw [Ow.len hik] at this; exact this
      have e1 : inner[i * k.sz + j]? = some u := by
        rw [List.getElem?_take_of_lt hj, List.getElem?_drop] at hu
        exact hu
      have e2 : w.cell? ((⟨g, 0, none⟩ : Addr).add (i * k.sz + j)) = some u := owns_cells ho rfl _ _ e1
      refine (World.cell?_of_block (a := (⟨g, 0, none⟩ : Addr).add (i * k.sz + j)) ?_).trans e2
      rw [add_block]; exact hgb.1
  | .pair _ _, _, _, _, _, _, _, _, h, hm, hk => by
    obtain ⟨c0, c1, rfl, h0, h1⟩ := h
    exact ⟨c0, c1, rfl, Ow.free h0 (hm.sub [0]) hk, Ow.free h1 (hm.sub [1]) hk⟩

end Go.Proofs.Ytlgbhpphfimdbaa.Ev
