/- Behind a call: each entry holds. -/
import Derived.Test.YtlgbhpphfimdbaaEv27
namespace Go.Proofs.Ytlgbhpphfimdbaa.Ev
set_option linter.unusedVariables false
set_option linter.unusedSimpArgs false

theorem lvRows_mem : ∀ {k : K} {nb j : Nat} {x : k.T}, (leafK k j).isSome = true → ∃ row, (nb + j, row) ∈ lvRows nb k x
  | .int _, _, _, _, h => by simp [leafK] at h
  | .bool, _, _, _, h => by simp [leafK] at h
  | .str, _, _, _, h => by simp [leafK] at h
  | .rs _ _, _, _, _, h => by simp [leafK] at h
  | .sl e k, nb, 0, x, _ => ⟨_, List.mem_singleton.2 rfl⟩
  | .sl e k, nb, j + 1, x, h => by simp [leafK] at h
  | .pair a b, nb, j, x, h => by
    by_cases hj : j < a.sz
    · rw [leafK_left hj] at h
      obtain ⟨row, hr⟩ := lvRows_mem (k := a) (nb := nb) (x := x.1) h
      exact ⟨row, List.mem_append_left _ hr⟩
    · have e : j = a.sz + (j - a.sz) := by omega
      rw [e, leafK_right] at h
      obtain ⟨row, hr⟩ := lvRows_mem (k := b) (nb := nb + a.sz) (x := x.2) h
      rw [Nat.add_assoc, ← e] at hr
      exact ⟨row, List.mem_append_right _ hr⟩

theorem own_len {α β : Type} {R : Path → α → List Value → Prop} {R' : Path → β → List Value → Prop} {e e' sz sz' : Nat} {w w' : World} {φ φ' : Col} {p p' : Path} {xs : List α} {ys : List β} {v : Value}
    (h : OwL R e sz w φ p xs v) (h' : OwL R' e' sz' w' φ' p' ys v) : ys.length = xs.length := by
  obtain ⟨_, ho, _⟩ := h
  obtain ⟨_, ho', _⟩ := h'
  rcases ho.2 with ⟨rfl, h1⟩ | ⟨g, cap, cur, fz, rfl, _⟩
  · rcases ho'.2 with ⟨_, h2⟩ | ⟨g, cap, cur, fz, e, _⟩
    · omega
    · cases e
  · rcases ho'.2 with ⟨e, h2⟩ | ⟨g', cap', cur', fz', e, _⟩
    · cases e
    · injection e with _ e _; exact e.symm

theorem toV_inj {g : Bool} {cs ds : List Value} {n : Nat} (h : toV g cs = toV g ds) (hc : cs.length = n) (hd : ds.length = n) (hg : g = true ∨ n = 1) : cs = ds := by
  cases g with
  | true =>
    simp only [toV] at h
    injection h with h
    have := congrArg Array.toList h
    simpa using this
  | false =>
    have hn : n = 1 := hg.resolve_left (by simp)
    subst hn
    cases cs with
    | nil => simp at hc
    | cons c cs =>
      cases ds with
      | nil => simp at hd
      | cons d ds =>
        have : cs = [] := List.eq_nil_of_length_eq_zero (by simpa using hc)
        subst this
        have : ds = [] := List.eq_nil_of_length_eq_zero (by simpa using hd)
        subst this
        simp only [toV] at h
        rw [h]

def tyAt (w : World) (g : Nat) : TypeId := match w.heap[g]? with
  | some (.cells _ t _) => t
  | _ => 0

/-- A result's cells. -/
def vcells (w : World) (v : Value) : List Value := match v with
  | .pointer (some ⟨b, 0, none⟩) => cellsAt w b
  | v => v.cells.toList

theorem vcells_val {w w' : World} {φ : Col} {base : Nat} {g : Bool} {k : K} {x : k.T} {cs : List Value} (h : LvC w φ base k x cs) (hg : g = true ∨ k.sz = 1) : vcells w' (toV g cs) = cs := by
  cases g with
  | true => simp [toV, vcells, Value.cells]
  | false =>
    have hn : k.sz = 1 := hg.resolve_left (by simp)
    have hl := h.len
    rw [hn] at hl
    obtain ⟨c, rfl⟩ : ∃ c, cs = [c] := by
      cases cs with
      | nil => simp at hl
      | cons c cs => exact ⟨c, by simpa using hl⟩
    simp only [toV]
    cases k with
    | int κ => simp only [LvC] at h; injection h with h; subst h; rfl
    | bool => simp only [LvC] at h; injection h with h; subst h; rfl
    | str => simp only [LvC] at h; injection h with h; subst h; rfl
    | sl e k =>
      obtain ⟨v, e', h⟩ := h
      injection e' with e'; subst e'
      obtain ⟨_, ho, _⟩ := h
      rcases ho.2 with ⟨rfl, _⟩ | ⟨_, _, _, _, rfl, _⟩ <;> rfl
    | rs e k =>
      obtain ⟨A, c', e', _⟩ := h
      injection e' with e'; subst e'; rfl
    | pair a b =>
      have := a.sz_pos
      have := b.sz_pos
      simp only [K.sz] at hn
      omega

/-- The memory behind a call, as far as its new names go. -/
structure NewOk (L : Nat) (w' : World) (φ' φ1 : Col) (pls : Nat → Plc) (rv : List Value) (news : List Loc) (m1 : Mem) : Prop where
  hw : m1.w = w'
  hφ : m1.φ = φ1
  row : ∀ j c v, j < 16 → c < 128 → rv[j]? = some v → Loc.r (nr L j + c) ∈ news → m1.ρ (nr L j + c) = (vcells w' v).getD c undef
  prow : ∀ i c, i < 16 → c < 128 → Loc.r (np L i + c) ∈ news → m1.ρ (np L i + c) = ((cellsAt w' (pls i).g).drop (pls i).pre.length).getD c undef
  box : ∀ j b, j < 16 → rv[j]? = some (.pointer (some ⟨b, 0, none⟩)) → Loc.b (nr L j) ∈ news → m1.β (nr L j) = ⟨b, tyAt w' b, [], []⟩

/-- Roots come back. -/
def Roots (w : World) (φ' φ1 : Col) (bk : List (Nat × Nat)) : Prop := ∀ p ∈ bk, ∀ q, Moves w w φ' φ1 (p.1 :: q) (p.2 :: q)

theorem rowsW_mem {rows : List (Nat × Row)} {l : Loc} {lv : LV} (h : (l, some lv) ∈ rowsW rows) : ∃ c row, l = .r c ∧ lv = .r row ∧ (c, row) ∈ rows := by
  obtain ⟨p, hp, e⟩ := List.mem_map.1 h
  injection e with e1 e2; injection e2 with e2
  exact ⟨p.1, p.2, e1.symm, e2.symm, hp⟩

/-- Rows and cells that come back under new names. -/
theorem back_rows {w' : World} {φ' φ1 : Col} {base nb : Nat} {k : K} {x : k.T} {cs : List Value} (h : LvC w' φ' base k x cs) (hb : Back k w' φ' φ1) (hroots : Roots w' φ' φ1 (cellsB base nb k.sz))
    {s1 : St} {m1 : Mem} (hw : m1.w = w') (hφ : m1.φ = φ1) (hρ : ∀ c v, cs[c]? = some v → (leafK k c).isSome = true → m1.ρ (nb + c) = v) :
    (∀ l lv, (l, some lv) ∈ rowsW (lvRows nb k x) → EntS s1 m1 l lv) ∧ All2 (LfC s1 m1) (leaves k x Lf.own nb) cs := by
  constructor
  · intro l lv hm
    obtain ⟨c, row, rfl, rfl, hm2⟩ := rowsW_mem hm
    obtain ⟨j, v, e1, e2, e3, e4, e5⟩ := lvRows_ok h c row hm2
    subst e1
    show OwL (Ow row.k m1.w m1.φ) row.e row.k.sz m1.w m1.φ [2 * (nb + j)] row.xs (m1.ρ (nb + j))
    rw [hρ j v e3 (by rw [e4]; rfl), hw, hφ]
    refine e5.back ?_ (hroots _ (cellsB_mem e2) [])
    refine hb.imp (fun hn => ?_) id
    have key : ∀ {k : K} {j e : Nat} {k' : K}, k.noRs = true → leafK k j = some (e, k') → (K.sl e k').noRs = true := by
      intro k
      induction k with
      | int _ => intro j e k' _ h; simp [leafK] at h
      | bool => intro j e k' _ h; simp [leafK] at h
      | str => intro j e k' _ h; simp [leafK] at h
      | rs _ _ _ => intro j e k' _ h; simp [leafK] at h
      | sl e0 k0 _ =>
        intro j e k' hn h
        cases j with
        | zero => simp only [leafK] at h; injection h with h; injection h with h1 h2; subst h1; subst h2; exact hn
        | succ j => simp [leafK] at h
      | pair a b iha ihb =>
        intro j e k' hn h
        simp only [K.noRs, Bool.and_eq_true] at hn
        simp only [leafK] at h
        split at h
        · exact iha hn.1 h
        · exact ihb hn.2 h
    exact key hn e4
  · refine leaves_back hw h (by rw [hφ]; exact hb) fun j v hv hl => ⟨h.one v (List.mem_of_getElem? hv), fun r _ => (hρ j v hv hl).symm⟩

def szOk (k : K) : Bool := Nat.ble k.sz 100

theorem Roots.left {w : World} {φ' φ1 : Col} {a b : List (Nat × Nat)} (h : Roots w φ' φ1 (a ++ b)) : Roots w φ' φ1 a := fun p hp => h p (List.mem_append_left _ hp)
theorem Roots.right {w : World} {φ' φ1 : Col} {a b : List (Nat × Nat)} (h : Roots w φ' φ1 (a ++ b)) : Roots w φ' φ1 b := fun p hp => h p (List.mem_append_right _ hp)
theorem Roots.tail {w : World} {φ' φ1 : Col} {a : Nat × Nat} {b : List (Nat × Nat)} (h : Roots w φ' φ1 (a :: b)) : Roots w φ' φ1 b := fun p hp => h p (List.mem_cons_of_mem _ hp)

theorem mem_news_row {nb c : Nat} {k : K} {x : k.T} {news : List Loc} {W : St} (hn : ∀ p ∈ rowsW (lvRows nb k x) ++ W, p.1 ∈ news) (hl : (leafK k c).isSome = true) : Loc.r (nb + c) ∈ news := by
  obtain ⟨row, hr⟩ := lvRows_mem (k := k) (nb := nb) (x := x) hl
  exact hn (.r (nb + c), some (.r row)) (List.mem_append_left _ (List.mem_map.2 ⟨_, hr, rfl⟩))

theorem outEnt {L : Nat} {w' : World} {φ' φ1 : Col} {pls : Nat → Plc} {rv : List Value} {news : List Loc} {s1 : St} {m1 : Mem} (hN : NewOk L w' φ' φ1 pls rv news m1) {ps : List PK} {args : List Value} :
    ∀ {res : List RK} {j : Nat} {y : Ts (outs res ps)} {vs : List Value}, OutC w' φ' pls ps args j res y vs → (∀ i v, vs[i]? = some v → rv[j + i]? = some v) → j + res.length ≤ 16 → (∀ r ∈ res, szOk r.k = true) →
      (∀ r ∈ res, Back r.k w' φ' φ1) → Roots w' φ' φ1 (bkRes L j res) → (∀ p ∈ outWr L j res y, p.1 ∈ news) →
      (∀ l lv, (l, some lv) ∈ outWr L j res y → EntS s1 m1 l lv) ∧ All2 (PartC s1 m1) (outParts L j res y) vs ∧ KeptC w' φ' pls 0 ps (outRest res y) args
  | [], j, y, vs, h, _, _, _, _, _, _ => by
    obtain ⟨rfl, hk⟩ := h
    exact ⟨fun l lv hm => (nomatch hm), trivial, hk⟩
  | .val g k :: res, j, y, vs, h, hv, hj, hsz, hb, hr, hn => by
    obtain ⟨cs, r, rfl, hl, hg, hrest⟩ := h
    have hlen : cs.length ≤ 100 := by rw [hl.len]; exact Nat.le_of_ble_eq_true (hsz _ List.mem_cons_self)
    have hj' : j < 16 := by simp at hj; omega
    have hv0 := hv 0 _ rfl
    rw [Nat.add_zero] at hv0
    obtain ⟨e1, e2⟩ := back_rows (s1 := s1) (nb := nr L j) hl (hb _ List.mem_cons_self) hr.left hN.hw hN.hφ fun c v hc hlk => by
      have hc' := (List.getElem?_eq_some_iff.1 hc).1
      rw [hN.row j c _ hj' (by omega) hv0 (mem_news_row hn hlk), vcells_val hl hg, List.getD_eq_getElem?_getD, hc]; rfl
    obtain ⟨e3, e4, e5⟩ := outEnt hN hrest (fun i v hi => by
      have := hv (i + 1) v (by simpa using hi)
      rwa [show j + (i + 1) = j + 1 + i by omega] at this) (by simp at hj; omega) (fun r hr => hsz r (List.mem_cons_of_mem _ hr)) (fun r hr => hb r (List.mem_cons_of_mem _ hr)) hr.right (fun p hp => hn p (List.mem_append_right _ hp))
    refine ⟨fun l lv hm => (List.mem_append.1 hm).elim (e1 l lv) (e3 l lv), ⟨?_, e4⟩, e5⟩
    cases g with
    | true => exact ⟨cs, rfl, e2⟩
    | false =>
      have hn1 : k.sz = 1 := hg.resolve_left (by simp)
      have hl1 := hl.len
      rw [hn1] at hl1
      obtain ⟨c, rfl⟩ : ∃ c, cs = [c] := by
        cases cs with
        | nil => simp at hl1
        | cons c cs => exact ⟨c, by simpa using hl1⟩
      cases hll : leaves k y.1 Lf.own (nr L j) with
      | nil => rw [hll] at e2; exact e2.elim
      | cons l ls =>
        rw [hll] at e2
        have : ls = [] := by cases ls with
          | nil => rfl
          | cons _ _ => exact e2.2.elim
        subst this
        exact ⟨l, rfl, e2.1⟩
  | .new k :: res, j, y, vs, h, hv, hj, hsz, hb, hr, hn => by
    obtain ⟨b, T, cs, r, rfl, hvar, hl, hrest⟩ := h
    obtain ⟨hheap, hcol⟩ := hvar
    simp only [List.nil_append, List.append_nil] at hheap hcol
    have hlen : cs.length ≤ 100 := by rw [hl.len]; exact Nat.le_of_ble_eq_true (hsz _ List.mem_cons_self)
    have hj' : j < 16 := by simp at hj; omega
    have hv0 := hv 0 _ rfl
    rw [Nat.add_zero] at hv0
    have hca : cellsAt w' b = cs := by simp only [cellsAt, hheap]
    have hty : tyAt w' b = T := by simp only [tyAt, hheap]
    obtain ⟨e1, e2⟩ := back_rows (s1 := s1) (nb := nr L j) hl (hb _ List.mem_cons_self) hr.tail.left hN.hw hN.hφ fun c v hc hlk => by
      have hc' := (List.getElem?_eq_some_iff.1 hc).1
      rw [hN.row j c _ hj' (by omega) hv0 (mem_news_row (fun p hp => hn p (List.mem_cons_of_mem _ hp)) hlk)]
      simp only [vcells, hca, List.getD_eq_getElem?_getD, hc]; rfl
    obtain ⟨e3, e4, e5⟩ := outEnt hN hrest (fun i v hi => by
      have := hv (i + 1) v (by simpa using hi)
      rwa [show j + (i + 1) = j + 1 + i by omega] at this) (by simp at hj; omega) (fun r hr => hsz r (List.mem_cons_of_mem _ hr)) (fun r hr => hb r (List.mem_cons_of_mem _ hr)) hr.tail.right (fun p hp => hn p (List.mem_cons_of_mem _ (List.mem_append_right _ hp)))
    have hβ := hN.box j b hj' hv0 (hn _ List.mem_cons_self)
    refine ⟨fun l lv hm => ?_, ⟨⟨_, rfl, rfl, fun c _ => ?_⟩, e4⟩, e5⟩
    · rcases List.mem_cons.1 hm with e | hm
      · injection e with e0 e1'; injection e1' with e1'; subst e0; subst e1'
        show BxC s1 m1 (m1.β (nr L j)) (nr L j) _
        rw [hβ]
        refine ⟨cs, e2, hl.one, ?_, ?_⟩
        · rw [hN.hφ]
          have hlt : b < w'.heap.size := (Array.getElem?_eq_some_iff.1 hheap).1
          exact (hr _ List.mem_cons_self [] b [] hcol hlt).2
        · rw [hN.hw, hty]; simpa using hheap
      · exact (List.mem_append.1 hm).elim (e1 l lv) (e3 l lv)
    · rw [hβ]; rfl

end Go.Proofs.Ytlgbhpphfimdbaa.Ev
