/- Out of a call: rows under new names. -/
import Derived.Test.YtlgbhpphfimdbaaEv25
namespace Go.Proofs.Ytlgbhpphfimdbaa.Ev
set_option linter.unusedVariables false
set_option linter.unusedSimpArgs false

/-- No slice in it is only read. -/
def K.noRs : K → Bool
  | .rs _ _ => false
  | .sl _ k => k.noRs
  | .pair a b => a.noRs && b.noRs
  | _ => true

theorem Ow.moveN : ∀ {k : K} {w w' : World} {φ φ' : Col} {p p' : Path} {x : k.T} {cs : List Value}, k.noRs = true → Ow k w φ p x cs → Moves w w' φ φ' p p' → Ow k w' φ' p' x cs
  | .int _, _, _, _, _, _, _, _, _, _, h, _ => h
  | .bool, _, _, _, _, _, _, _, _, _, h, _ => h
  | .str, _, _, _, _, _, _, _, _, _, h, _ => h
  | .rs _ k, _, _, _, _, _, _, _, _, hn, _, _ => by simp [K.noRs] at hn
  | .sl e k, w, w', φ, φ', p, p', xs, cs, hn, h, hm => by
    obtain ⟨v, rfl, inner, ho, hc, hi⟩ := h
    refine ⟨v, rfl, inner, owns_same ho fun g hg => ?_, fun g hg => ?_, fun i h => Ow.moveN (by simpa [K.noRs] using hn) (hi i h) (hm.sub [i])⟩
    · exact (hm g [] (by rw [List.append_nil]; exact hc g hg) (own_block_lt ho hg)).1
    · have := (hm g [] (by rw [List.append_nil]; exact hc g hg) (own_block_lt ho hg)).2
      rwa [List.append_nil] at this
  | .pair _ _, _, _, _, _, _, _, _, _, hn, h, hm => by
    simp only [K.noRs, Bool.and_eq_true] at hn
    obtain ⟨c0, c1, rfl, h0, h1⟩ := h
    exact ⟨c0, c1, rfl, Ow.moveN hn.1 h0 (hm.sub [0]), Ow.moveN hn.2 h1 (hm.sub [1])⟩

/-- What is only read comes back too: there is none of it, or what is nobody's stays so. -/
def Back (k : K) (w : World) (φ φ' : Col) : Prop := k.noRs = true ∨ Keeps w w φ φ'

theorem Back.left {a b : K} {w : World} {φ φ' : Col} (h : Back (.pair a b) w φ φ') : Back a w φ φ' := h.imp (fun h => by simp only [K.noRs, Bool.and_eq_true] at h; exact h.1) id
theorem Back.right {a b : K} {w : World} {φ φ' : Col} (h : Back (.pair a b) w φ φ') : Back b w φ φ' := h.imp (fun h => by simp only [K.noRs, Bool.and_eq_true] at h; exact h.2) id

theorem OwL.back {k : K} {e : Nat} {w : World} {φ φ' : Col} {p p' : Path} {xs : List k.T} {v : Value} (h : OwL (Ow k w φ) e k.sz w φ p xs v) (hb : Back (.sl e k) w φ φ') (hm : Moves w w φ φ' p p') :
    OwL (Ow k w φ') e k.sz w φ' p' xs v := by
  have h' : Ow (.sl e k) w φ p xs [v] := ⟨v, rfl, h⟩
  have : Ow (.sl e k) w φ' p' xs [v] := hb.elim (fun hn => Ow.moveN hn h' hm) (fun hk => Ow.move h' hm hk)
  obtain ⟨v', e', h''⟩ := this
  injection e' with e' _
  rw [e']; exact h''

/-- The kind of the slice at a cell. -/
def leafK : K → Nat → Option (Nat × K)
  | .sl e k, 0 => some (e, k)
  | .pair a b, j => match Nat.blt j a.sz with
    | true => leafK a j
    | false => leafK b (j - a.sz)
  | _, _ => none

theorem leafK_left {a b : K} {j : Nat} (h : j < a.sz) : leafK (.pair a b) j = leafK a j := by simp only [leafK, blt_iff.2 h]
theorem leafK_right {a b : K} {j : Nat} : leafK (.pair a b) (a.sz + j) = leafK b j := by
  have : Nat.blt (a.sz + j) a.sz = false := blt_false.2 (by omega)
  simp only [leafK, this, Nat.add_sub_cancel_left]

/-- The rows of data's cells. -/
def lvRows : Nat → (k : K) → k.T → List (Nat × Row)
  | nb, .sl e k, xs => [(nb, ⟨e, k, xs, 0⟩)]
  | nb, .pair a b, x => lvRows nb a x.1 ++ lvRows (nb + a.sz) b x.2
  | _, _, _ => []

theorem lvRows_ok {w : World} {φ : Col} : ∀ {k : K} {base nb : Nat} {x : k.T} {cs : List Value}, LvC w φ base k x cs → ∀ c row, (c, row) ∈ lvRows nb k x →
    ∃ j v, c = nb + j ∧ j < k.sz ∧ cs[j]? = some v ∧ leafK k j = some (row.e, row.k) ∧ OwL (Ow row.k w φ) row.e row.k.sz w φ [2 * (base + j)] row.xs v
  | .int _, _, _, _, _, _, _, _, hm => by simp [lvRows] at hm
  | .bool, _, _, _, _, _, _, _, hm => by simp [lvRows] at hm
  | .str, _, _, _, _, _, _, _, hm => by simp [lvRows] at hm
  | .rs _ _, _, _, _, _, _, _, _, hm => by simp [lvRows] at hm
  | .sl e k, base, nb, xs, cs, h, c, row, hm => by
    obtain ⟨v, rfl, h⟩ := h
    simp only [lvRows, List.mem_singleton] at hm
    injection hm with h1 h2; subst h1; subst h2
    exact ⟨0, v, rfl, Nat.one_pos, rfl, rfl, h⟩
  | .pair a b, base, nb, x, cs, h, c, row, hm => by
    obtain ⟨c0, c1, rfl, h0, h1⟩ := h
    simp only [lvRows] at hm
    rcases List.mem_append.1 hm with hm | hm
    · obtain ⟨j, v, e1, e2, e3, e4, e5⟩ := lvRows_ok h0 c row hm
      refine ⟨j, v, e1, by simp only [K.sz]; omega, ?_, by rw [leafK_left e2]; exact e4, e5⟩
      rw [List.getElem?_append_left (by rw [h0.len]; exact e2)]; exact e3
    · obtain ⟨j, v, e1, e2, e3, e4, e5⟩ := lvRows_ok h1 c row hm
      refine ⟨a.sz + j, v, by omega, by simp only [K.sz]; omega, ?_, by rw [leafK_right]; exact e4, by rw [← Nat.add_assoc]; exact e5⟩
      rw [List.getElem?_append_right (by rw [h0.len]; omega), h0.len, Nat.add_sub_cancel_left]; exact e3

/-- Cells out of a call, told by new names. -/
theorem leaves_back {w : World} {φ : Col} {s1 : St} {m1 : Mem} (hw : m1.w = w) : ∀ {k : K} {base nb : Nat} {x : k.T} {cs : List Value}, LvC w φ base k x cs → Back k w φ m1.φ →
    (∀ j v, cs[j]? = some v → (leafK k j).isSome = true → LfC s1 m1 (.own (nb + j)) v) → All2 (LfC s1 m1) (leaves k x Lf.own nb) cs
  | .int _, _, _, _, _, h, _, _ => by simp only [LvC] at h; subst h; exact ⟨rfl, trivial⟩
  | .bool, _, _, _, _, h, _, _ => by simp only [LvC] at h; subst h; exact ⟨rfl, trivial⟩
  | .str, _, _, _, _, h, _, _ => by simp only [LvC] at h; subst h; exact ⟨rfl, trivial⟩
  | .rs e k, base, nb, xs, cs, h, hb, _ => by
    have hk : Keeps w w φ m1.φ := hb.resolve_left (by simp [K.noRs])
    have h' : Ro (.rs e k) w φ xs cs := h
    have h2 := h'.keep hk
    obtain ⟨A, c, rfl, _⟩ := h
    refine ⟨?_, trivial⟩
    show Ro (.rs e k) m1.w m1.φ xs _
    rw [hw]; exact h2
  | .sl e k, base, nb, xs, cs, h, _, hm => by
    obtain ⟨v, rfl, h⟩ := h
    exact ⟨hm 0 v rfl rfl, trivial⟩
  | .pair a b, base, nb, x, cs, h, hb, hm => by
    obtain ⟨c0, c1, rfl, h0, h1⟩ := h
    refine All2.app (leaves_back hw h0 hb.left fun j v hv hl => ?_) (leaves_back hw h1 hb.right fun j v hv hl => ?_)
    · have hj : j < a.sz := by rw [← h0.len]; exact (List.getElem?_eq_some_iff.1 hv).1
      refine hm j v ?_ (by rw [leafK_left hj]; exact hl)
      rw [List.getElem?_append_left (by rw [h0.len]; exact hj)]; exact hv
    · rw [Nat.add_assoc]
      refine hm (a.sz + j) v ?_ (by rw [leafK_right]; exact hl)
      rw [List.getElem?_append_right (by rw [h0.len]; omega), h0.len, Nat.add_sub_cancel_left]; exact hv

/-- What was handed over, at its cell. -/
theorem gv_cells {cfg : Cfg} {s s' : St} {kp : Bool} {n : Nat} {w0 : World} {φ0 : Gh} {a : Act} {m : Mem} (hr : Rel n w0 φ0 s' a m) :
    ∀ {k : K} {base : Nat} {ls : List Lf} {x : k.T} {rest : List Lf} {hd : List Hd} {bo : List Nat} {rds : Rds}, gv cfg s kp base k ls = some (x, rest, hd, bo, rds) → Reads s' rds → ∀ {vs : List Value}, All2 (LfC s' m) ls vs →
      ls.length = k.sz + rest.length ∧ (∃ v0 v1, vs = v0 ++ v1 ∧ v0.length = k.sz ∧ All2 (LfC s' m) rest v1) ∧
      ∀ h ∈ hd, ∃ j, h.r = base + j ∧ j < k.sz ∧ vs[j]? = some (m.ρ h.id) ∧ leafK k j = some (h.row.e, h.row.k) ∧ s'.get (.r h.id) = some (.r h.row) ∧ h.kp = kp
  | .int κ, base, ls, x, rest, hd, bo, rds, h, hrd, vs, hv => by
    cases ls with
    | nil => simp [gv] at h
    | cons l ls =>
      cases vs with
      | nil => exact hv.elim
      | cons v vs =>
        cases l <;> simp only [gv] at h <;> try (cases h; done)
        split at h
        · injection h with h; injection h with h1 h; injection h with h2 h; injection h with h3 h; subst h2; subst h3
          exact ⟨by simp [K.sz]; omega, ⟨[v], vs, rfl, rfl, hv.2⟩, fun h hh => nomatch hh⟩
        · cases h
  | .bool, base, ls, x, rest, hd, bo, rds, h, hrd, vs, hv => by
    cases ls with
    | nil => simp [gv] at h
    | cons l ls =>
      cases vs with
      | nil => exact hv.elim
      | cons v vs =>
        cases l <;> simp only [gv] at h <;> try (cases h; done)
        injection h with h; injection h with h1 h; injection h with h2 h; injection h with h3 h; subst h2; subst h3
        exact ⟨by simp [K.sz]; omega, ⟨[v], vs, rfl, rfl, hv.2⟩, fun h hh => nomatch hh⟩
  | .str, base, ls, x, rest, hd, bo, rds, h, hrd, vs, hv => by
    cases ls with
    | nil => simp [gv] at h
    | cons l ls =>
      cases vs with
      | nil => exact hv.elim
      | cons v vs =>
        cases l <;> simp only [gv] at h <;> try (cases h; done)
        injection h with h; injection h with h1 h; injection h with h2 h; injection h with h3 h; subst h2; subst h3
        exact ⟨by simp [K.sz]; omega, ⟨[v], vs, rfl, rfl, hv.2⟩, fun h hh => nomatch hh⟩
  | .sl e k, base, ls, x, rest, hd, bo, rds, h, hrd, vs, hv => by
    cases ls with
    | nil => simp [gv] at h
    | cons l ls =>
      cases vs with
      | nil => exact hv.elim
      | cons v vs =>
        cases l <;> simp only [gv] at h <;> try (cases h; done)
        · injection h with h; injection h with h1 h; injection h with h2 h; injection h with h3 h; subst h2; subst h3
          exact ⟨by simp [K.sz]; omega, ⟨[v], vs, rfl, rfl, hv.2⟩, fun h hh => nomatch hh⟩
        · split at h
          · rename_i id _ row hrow
            split at h
            · rename_i xs hb hcast
              injection h with h; injection h with h1 h; injection h with h2 h; injection h with h3 h; injection h with h4 h5; subst h1; subst h2; subst h3; subst h4; subst h5
              refine ⟨by simp [K.sz]; omega, ⟨[v], vs, rfl, rfl, hv.2⟩, fun h hh => ?_⟩
              rw [List.mem_singleton.1 hh]
              have hg := hrd (.r id, .r row) (by simp)
              refine ⟨0, rfl, Nat.one_pos, by simp [hv.1.2 row hg], ?_, hg, rfl⟩
              have hb := Nat.eq_of_beq_eq_true hb
              obtain ⟨ek, _⟩ := castL_some hcast
              simp only [leafK, hb, ek]
            · cases h
          · cases h
  | .rs e k, base, ls, x, rest, hd, bo, rds, h, hrd, vs, hv => by
    cases ls with
    | nil => simp [gv] at h
    | cons l ls =>
      cases vs with
      | nil => exact hv.elim
      | cons v vs =>
        simp only [gv] at h
        split at h
        · injection h with h; injection h with h1 h; injection h with h2 h; injection h with h3 h; subst h2; subst h3
          exact ⟨by simp [K.sz]; omega, ⟨[v], vs, rfl, rfl, hv.2⟩, fun h hh => nomatch hh⟩
        · cases h
  | .pair a b, base, ls, x, rest, hd, bo, rds, h, hrd, vs, hv => by
    simp only [gv] at h
    split at h
    · rename_i x1 r1 h1 b1 d1 e1
      split at h
      · rename_i x2 r2 h2 b2 d2 e2
        injection h with h; injection h with h3 h; injection h with h4 h; injection h with h5 h; injection h with h6 h7; subst h3; subst h4; subst h5; subst h6; subst h7
        obtain ⟨hrd1, hrd2⟩ := Reads.app.1 hrd
        obtain ⟨l1, ⟨v0, v1, ev, hl0, hrest⟩, g1⟩ := gv_cells hr e1 hrd1 hv
        obtain ⟨l2, ⟨v2, v3, ev2, hl2, hrest2⟩, g2⟩ := gv_cells hr e2 hrd2 hrest
        subst ev2; subst ev
        refine ⟨by simp only [K.sz]; omega, ⟨v0 ++ v2, v3, by rw [List.append_assoc], by simp [K.sz]; omega, hrest2⟩, fun h hh => ?_⟩
        rcases List.mem_append.1 hh with hh | hh
        · obtain ⟨j, f1, f2, f3, f4, f5⟩ := g1 h hh
          exact ⟨j, f1, by simp only [K.sz]; omega, f3, by rw [leafK_left f2]; exact f4, f5⟩
        · obtain ⟨j, f1, f2, f3, f4, f5⟩ := g2 h hh
          refine ⟨a.sz + j, by omega, by simp only [K.sz]; omega, ?_, by rw [leafK_right]; exact f4, f5⟩
          rw [List.getElem?_append_right (by omega), hl0, Nat.add_sub_cancel_left]; exact f3
      · cases h
    · cases h

end Go.Proofs.Ytlgbhpphfimdbaa.Ev
