/- Stores: into variables, into elements of rows. -/
import Derived.Test.YtlgbhpphfimdbaaEv15
namespace Go.Proofs.Ytlgbhpphfimdbaa.Ev
set_option linter.unusedVariables false
set_option linter.unusedSimpArgs false

def OutS {R : Type} (P : Program) (s : St) (op : Op) (κ : Ke R) (r : R) : Prop :=
  ∃ δ, κ δ = some r ∧ Reads s δ.rd ∧ ∀ n (o : Oper), o.op = op → o.dst = none → Good P n o δ

/-- A variable in memory is written. -/
theorem Rel.setBox {n : Nat} {w0 : World} {φ0 : Gh} {s : St} {a : Act} {m : Mem} (h : Rel n w0 φ0 s a m) {b : Nat} {c c' : List Lf} (hb : s.get (.b b) = some (.b c)) {w' : World} {cs : List Value}
    (hO : Only m.w w' m.φ m.φ (2 * b + 1)) (hs : m.w.heap.size ≤ w'.heap.size) (os : w'.os = m.w.os) (tp : w'.tape = m.w.tape) (ou : w'.output = m.w.output)
    (hc : All2 (LfC s m) c' cs) (hlive : ∀ l ∈ c', ∀ q ∈ l.men, Live s q)
    (hg : w'.heap[(m.β b).g]? = some (.cells ((m.β b).pre ++ cs ++ (m.β b).post).toArray (m.β b).t (0, 0))) :
    Rel n w0 φ0 ((.b b, some (.b c')) :: s) a ⟨w', m.φ, m.ρ, m.β⟩ := by
  have hget : ∀ l, l ≠ .b b → St.get ((.b b, some (.b c')) :: s) l = s.get l := fun l hl => St.get_cons_ne (Ne.symm hl) _ _
  have hX : Ext s m ((.b b, some (.b c')) :: s) ⟨w', m.φ, m.ρ, m.β⟩ (Live s) := by
    refine ⟨hO.keeps, fun id r' hL hr => ?_, fun b' c0 _ hc0 => ?_, fun q i _ hi => by rwa [hget _ (by simp)] at hi⟩
    · rw [hget _ (by simp)] at hr
      refine ⟨r', hr, rfl, rfl, rfl, Nat.le_refl _, fun _ hn j v hcell => ?_⟩
      obtain ⟨hcol, hlt⟩ := row_block (h.rw id r' hr) hn
      refine (World.cell?_of_block ?_).trans hcell
      rw [add_block]
      exact (hO _ hlt (fun q hq => by rw [hcol] at hq; injection hq with hq; injection hq with hq _; omega)).1
    · by_cases hbb : b' = b
      · subst hbb; exact ⟨c, hb, rfl⟩
      · rw [hget _ (by simpa using hbb)] at hc0; exact ⟨c0, hc0, rfl⟩
  refine h.change (fun i => hget _ (by simp)) hX (fun id r hr => ?_) (fun b' c0 hc0 => ?_) hO.fore hs os tp ou (fun id r _ _ hg => ⟨⟨r, by rwa [hget _ (by simp)] at hg⟩, rfl⟩) (fun b' c' _ _ hg => by
    by_cases hbb : b' = b
    · subst hbb; exact ⟨⟨c, hb⟩, rfl⟩
    · exact ⟨⟨c', by rwa [hget _ (by simpa using hbb)] at hg⟩, rfl⟩)
  · rw [hget _ (by simp)] at hr
    exact (h.rw id r hr).move (hO.moves (by omega) []) hO.keeps
  · by_cases hbb : b' = b
    · subst hbb
      rw [St.get_cons_same] at hc0
      injection hc0 with hc0; injection hc0 with hc0; subst hc0
      obtain ⟨_, _, _, h5, _⟩ := h.bx b' c hb
      exact ⟨cs, All2.imp (fun l hm x hx => hx.ext (hX.sub fun q hq => hlive l hm q hq)) hc, All2.one hc, h5, hg⟩
    · rw [hget _ (by simpa using hbb)] at hc0
      obtain ⟨cs', h3, h4, h5, h6⟩ := h.bx b' c0 hc0
      have hlt : (m.β b').g < m.w.heap.size := (Array.getElem?_eq_some_iff.1 h6).1
      obtain ⟨e1, e2⟩ := hO _ hlt (fun q hq => by rw [h5] at hq; injection hq with hq; injection hq with hq _; omega)
      exact ⟨cs', All2.imp (fun l hm x hb => hb.ext (hX.sub fun q hq => ⟨.b b', .b c0, hc0, List.mem_flatMap.2 ⟨l, hm, hq⟩⟩)) h3, h4, h5, e1.trans h6⟩

/-- An element of a row is written. -/
theorem Rel.updRow {n : Nat} {w0 : World} {φ0 : Gh} {s : St} {a : Act} {m : Mem} (h : Rel n w0 φ0 s a m) {id : Nat} {r row : Row} (hrow : s.get (.r id) = some (.r r)) {w' : World}
    (hO : Only m.w w' m.φ m.φ (2 * id)) (hs : m.w.heap.size ≤ w'.heap.size) (os : w'.os = m.w.os) (tp : w'.tape = m.w.tape) (ou : w'.output = m.w.output)
    (hsz : row.k.sz = r.k.sz) (hlen : row.xs.length = r.xs.length) (hver : r.ver < row.ver)
    (ho : OwL (Ow row.k w' m.φ) row.e row.k.sz w' m.φ [2 * id] row.xs (m.ρ id)) :
    Rel n w0 φ0 ((.r id, some (.r row)) :: s) a ⟨w', m.φ, m.ρ, m.β⟩ := by
  have hget : ∀ l, l ≠ .r id → St.get ((.r id, some (.r row)) :: s) l = s.get l := fun l hl => St.get_cons_ne (Ne.symm hl) _ _
  have hX : Ext s m ((.r id, some (.r row)) :: s) ⟨w', m.φ, m.ρ, m.β⟩ (Live s) := by
    refine ⟨hO.keeps, fun id' r' hL hr => ?_, fun b c' _ hc => ⟨c', by rwa [hget _ (by simp)] at hc, rfl⟩, fun q i _ hi => by rwa [hget _ (by simp)] at hi⟩
    by_cases hid : id' = id
    · subst hid
      rw [St.get_cons_same] at hr
      injection hr with hr; injection hr with hr; subst hr
      exact ⟨r, hrow, rfl, hsz, hlen, Nat.le_of_lt hver, fun e => by omega⟩
    · rw [hget _ (by simpa using hid)] at hr
      refine ⟨r', hr, rfl, rfl, rfl, Nat.le_refl _, fun _ hn j v hcell => ?_⟩
      obtain ⟨hcol, hlt⟩ := row_block (h.rw id' r' hr) hn
      refine (World.cell?_of_block ?_).trans hcell
      rw [add_block]
      exact (hO _ hlt (fun q hq => by rw [hcol] at hq; injection hq with hq; injection hq with hq _; omega)).1
  refine h.change (fun i => hget _ (by simp)) hX (fun id' r' hr => ?_) (fun b c hc => ?_) hO.fore hs os tp ou (fun id' r' _ _ hg => by
    by_cases hid : id' = id
    · subst hid; exact ⟨⟨r, hrow⟩, rfl⟩
    · exact ⟨⟨r', by rwa [hget _ (by simpa using hid)] at hg⟩, rfl⟩) (fun b c _ _ hg => ⟨⟨c, by rwa [hget _ (by simp)] at hg⟩, rfl⟩)
  · by_cases hid : id' = id
    · subst hid
      rw [St.get_cons_same] at hr
      injection hr with hr; injection hr with hr; subst hr
      exact ho
    · rw [hget _ (by simpa using hid)] at hr
      exact (h.rw id' r' hr).move (hO.moves (by omega) []) hO.keeps
  · rw [hget _ (by simp)] at hc
    obtain ⟨cs', h3, h4, h5, h6⟩ := h.bx b c hc
    have hlt : (m.β b).g < m.w.heap.size := (Array.getElem?_eq_some_iff.1 h6).1
    obtain ⟨e1, e2⟩ := hO _ hlt (fun q hq => by rw [h5] at hq; injection hq with hq; injection hq with hq _; omega)
    exact ⟨cs', All2.imp (fun l hm x hb => hb.ext (hX.sub fun q hq => ⟨.b b, .b c, hc, List.mem_flatMap.2 ⟨l, hm, hq⟩⟩)) h3, h4, h5, e1.trans h6⟩

/-- Cells put into an element's cells from off on. -/
def putL (s : St) : (k : K) → k.T → Nat → List Lf → Path → Option (k.T × List Lf × Mv)
  | .pair a b, x, off, ls, p => match Nat.blt off a.sz with
    | true => match putL s a x.1 off ls (p ++ [0]) with
      | some (x1, [], m1) => some ((x1, x.2), [], m1)
      | some (x1, l :: r, m1) => match putL s b x.2 0 (l :: r) (p ++ [1]) with
        | some (y, r', m2) => some ((x1, y), r', m1 ++ m2)
        | none => none
      | none => none
    | false => match putL s b x.2 (off - a.sz) ls (p ++ [1]) with
      | some (y, r, m1) => some ((x.1, y), r, m1)
      | none => none
  | .int κ, _, 0, ls, p => gath s (.int κ) ls p
  | .bool, _, 0, ls, p => gath s .bool ls p
  | .str, _, 0, ls, p => gath s .str ls p
  | .sl e k, _, 0, ls, p => gath s (.sl e k) ls p
  | .rs e k, _, 0, ls, p => gath s (.rs e k) ls p
  | _, _, _, _, _ => none

theorem putL_reads {s : St} : ∀ {k : K} {x : k.T} {off : Nat} {ls : List Lf} {p : Path} {y : k.T} {rest : List Lf} {mv : Mv}, putL s k x off ls p = some (y, rest, mv) → Reads s (mvR mv) := by
  intro k
  induction k with
  | pair a b iha ihb =>
    intro x off ls p y rest mv h
    simp only [putL] at h
    split at h
    · split at h
      · rename_i x1 m1 e1
        injection h with h; injection h with _ h; injection h with _ h; subst h; exact iha e1
      · rename_i x1 l r m1 e1
        split at h
        · rename_i y2 r' m2 e2
          injection h with h; injection h with _ h; injection h with _ h; subst h
          have := Reads.app.2 ⟨iha e1, ihb e2⟩
          simpa [mvR] using this
        · cases h
      · cases h
    · split at h
      · rename_i y2 r m1 e1
        injection h with h; injection h with _ h; injection h with _ h; subst h; exact ihb e1
      · cases h
  | _ =>
    intro x off ls p y rest mv h
    cases off with
    | zero => simp only [putL] at h; exact gath_reads h
    | succ o => simp [putL] at h

theorem putL_ok {s s' : St} {n : Nat} {w0 : World} {φ0 : Gh} {a : Act} {m : Mem} (hr : Rel n w0 φ0 s' a m) {w' : World} {φ' : Col} (hk : Keeps m.w w' m.φ φ') (p0 : Path) :
    ∀ {k : K} {x : k.T} {off : Nat} {ls : List Lf} {p : Path} {y : k.T} {rest : List Lf} {mv : Mv} {cs vs : List Value}, putL s k x off ls p = some (y, rest, mv) → Reads s' (mvR mv) → All2 (LfC s' m) ls vs →
      Does m.w w' m.φ φ' p0 mv → Ow k m.w m.φ (p0 ++ p) x cs → (∀ q, Moves m.w w' m.φ φ' (p0 ++ p ++ q) (p0 ++ p ++ q)) →
      ∃ v0 v1, vs = v0 ++ v1 ∧ off + v0.length ≤ k.sz ∧ Ow k w' φ' (p0 ++ p) y (cs.take off ++ v0 ++ cs.drop (off + v0.length)) ∧ All2 (LfC s' m) rest v1 ∧ (rest ≠ [] → off + v0.length = k.sz) := by
  intro k
  have leaf : ∀ {k : K} {ls : List Lf} {p : Path} {y : k.T} {rest : List Lf} {mv : Mv} {cs vs : List Value}, k.sz = 1 → gath s k ls p = some (y, rest, mv) → Reads s' (mvR mv) → All2 (LfC s' m) ls vs → Does m.w w' m.φ φ' p0 mv → cs.length = 1 →
      ∃ v0 v1, vs = v0 ++ v1 ∧ 0 + v0.length ≤ k.sz ∧ Ow k w' φ' (p0 ++ p) y (cs.take 0 ++ v0 ++ cs.drop (0 + v0.length)) ∧ All2 (LfC s' m) rest v1 ∧ (rest ≠ [] → 0 + v0.length = k.sz) := by
    intro k ls p y rest mv cs vs hsz h hrd hl hd hcl
    obtain ⟨c0, c1, e, ho, hrest⟩ := gath_ok hr hk p0 h hrd hl hd
    have h1 := ho.len
    refine ⟨c0, c1, e, by rw [h1]; omega, ?_, hrest, fun _ => by rw [h1]; omega⟩
    rw [List.take_zero, List.nil_append, Nat.zero_add, h1, hsz, List.drop_of_length_le (by omega), List.append_nil]
    exact ho
  induction k with
  | pair ka kb iha ihb =>
    intro x off ls p y rest mv cs vs h hrd hl hd how hm
    obtain ⟨c0, c1, rfl, ho0, ho1⟩ := how
    rw [List.append_assoc] at ho0 ho1
    have hm0 : ∀ q, Moves m.w w' m.φ φ' (p0 ++ (p ++ [0]) ++ q) (p0 ++ (p ++ [0]) ++ q) := fun q => by
      have := hm ([0] ++ q); simpa [List.append_assoc] using this
    have hm1 : ∀ q, Moves m.w w' m.φ φ' (p0 ++ (p ++ [1]) ++ q) (p0 ++ (p ++ [1]) ++ q) := fun q => by
      have := hm ([1] ++ q); simpa [List.append_assoc] using this
    have l0 := ho0.len
    have l1 := ho1.len
    simp only [putL] at h
    split at h
    · rename_i hlt
      have hlt := blt_iff.1 hlt
      split at h
      · rename_i x1 m1 e1
        injection h with h; injection h with h1 h; injection h with h2 h3; subst h1; subst h2; subst h3
        obtain ⟨v0, v1, e, hle, ho, hrest, _⟩ := iha e1 hrd hl hd ho0 hm0
        have hv1 : v1 = [] := by cases v1 with
          | nil => rfl
          | cons _ _ => exact hrest.elim
        subst hv1
        refine ⟨v0, [], e, by simp only [K.sz]; omega, ⟨_, _, ?_, by rw [List.append_assoc]; exact ho, by rw [List.append_assoc]; exact Ow.move ho1 (by simpa using hm1 []) hk⟩, trivial, fun h => absurd rfl h⟩
        rw [List.take_append_of_le_length (by omega), List.drop_append_of_le_length (by omega)]
        simp
      · rename_i x1 l r m1 e1
        split at h
        · rename_i y2 r' m2 e2
          injection h with h; injection h with h1 h; injection h with h2 h3; subst h1; subst h2; subst h3
          have hrd' : Reads s' (mvR m1) ∧ Reads s' (mvR m2) := by rw [← Reads.app]; simpa [mvR] using hrd
          obtain ⟨v0, v1, e, hle, ho, hrest, hfull⟩ := iha e1 hrd'.1 hl (fun v hv => hd v (List.mem_append_left _ hv)) ho0 hm0
          obtain ⟨u0, u1, e', hle', ho', hrest', hfull'⟩ := ihb e2 hrd'.2 hrest (fun v hv => hd v (List.mem_append_right _ hv)) ho1 hm1
          subst e'
          subst e
          have hfull := hfull (by simp)
          refine ⟨v0 ++ u0, u1, by simp, by simp only [K.sz, List.length_append]; omega, ⟨_, _, ?_, by rw [List.append_assoc]; exact ho, by rw [List.append_assoc]; exact ho'⟩, hrest', fun hne => by
            have := hfull' hne; simp only [K.sz, List.length_append]; omega⟩
          have e1 : c0.drop (off + v0.length) = [] := List.drop_of_length_le (by omega)
          have e2 : (c0 ++ c1).drop (off + (v0 ++ u0).length) = c1.drop (0 + u0.length) := by
            rw [List.drop_append, List.drop_of_length_le (by simp only [List.length_append]; omega), List.nil_append]
            congr 1; simp only [List.length_append]; omega
          rw [List.take_append_of_le_length (by omega), e1, e2]
          simp
        · cases h
      · cases h
    · rename_i hge
      have hge := blt_false.1 hge
      split at h
      · rename_i y2 r m1 e1
        injection h with h; injection h with h1 h; injection h with h2 h3; subst h1; subst h2; subst h3
        obtain ⟨v0, v1, e, hle, ho, hrest, hfull⟩ := ihb e1 hrd hl hd ho1 hm1
        refine ⟨v0, v1, e, by simp only [K.sz]; omega, ⟨_, _, ?_, by rw [List.append_assoc]; exact Ow.move ho0 (by simpa using hm0 []) hk, by rw [List.append_assoc]; exact ho⟩, hrest, fun hne => by have := hfull hne; simp only [K.sz]; omega⟩
        rw [List.take_append, List.drop_append, l0, List.take_of_length_le (by omega), List.drop_of_length_le (by omega)]
        simp only [List.nil_append, List.append_assoc]
        congr 3
        congr 1; omega
      · cases h
  | int κ =>
    intro x off ls p y rest mv cs vs h hrd hl hd how hm
    cases off with
    | zero => exact leaf rfl (by simpa only [putL] using h) hrd hl hd how.len
    | succ o => simp [putL] at h
  | bool =>
    intro x off ls p y rest mv cs vs h hrd hl hd how hm
    cases off with
    | zero => exact leaf rfl (by simpa only [putL] using h) hrd hl hd how.len
    | succ o => simp [putL] at h
  | str =>
    intro x off ls p y rest mv cs vs h hrd hl hd how hm
    cases off with
    | zero => exact leaf rfl (by simpa only [putL] using h) hrd hl hd how.len
    | succ o => simp [putL] at h
  | sl e k _ =>
    intro x off ls p y rest mv cs vs h hrd hl hd how hm
    cases off with
    | zero => exact leaf rfl (by simpa only [putL] using h) hrd hl hd how.len
    | succ o => simp [putL] at h
  | rs e k _ =>
    intro x off ls p y rest mv cs vs h hrd hl hd how hm
    cases off with
    | zero => exact leaf rfl (by simpa only [putL] using h) hrd hl hd how.len
    | succ o => simp [putL] at h

end Go.Proofs.Ytlgbhpphfimdbaa.Ev
