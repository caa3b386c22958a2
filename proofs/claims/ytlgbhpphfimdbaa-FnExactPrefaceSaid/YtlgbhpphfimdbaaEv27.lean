/- Behind a call: what is written of the state. -/
import Derived.Test.YtlgbhpphfimdbaaEv26
namespace Go.Proofs.Ytlgbhpphfimdbaa.Ev
set_option linter.unusedVariables false
set_option linter.unusedSimpArgs false

/-- New names of result j's and parameter i's rows. -/
@[reducible] def nr (L j : Nat) : Nat := 4096 * L + 128 * j
@[reducible] def np (L i : Nat) : Nat := 4096 * L + 2048 + 128 * i

def rowsW (rows : List (Nat × Row)) : St := rows.map fun p => (.r p.1, some (.r p.2))

def outParts (L : Nat) : Nat → (res : List RK) → {ps : List PK} → Ts (outs res ps) → List (Bool × List Lf)
  | _, [], _, _ => []
  | j, .val g k :: res, _, y => (g, leaves k y.1 Lf.own (nr L j)) :: outParts L (j + 1) res y.2
  | j, .new k :: res, _, y => (false, [.ptr (nr L j) 0]) :: outParts L (j + 1) res y.2

def outWr (L : Nat) : Nat → (res : List RK) → {ps : List PK} → Ts (outs res ps) → St
  | _, [], _, _ => []
  | j, .val g k :: res, _, y => rowsW (lvRows (nr L j) k y.1) ++ outWr L (j + 1) res y.2
  | j, .new k :: res, _, y => (.b (nr L j), some (.b (leaves k y.1 Lf.own (nr L j)))) :: (rowsW (lvRows (nr L j) k y.1) ++ outWr L (j + 1) res y.2)

def outRest : (res : List RK) → {ps : List PK} → Ts (outs res ps) → Ts (kk ps)
  | [], _, y => y
  | .val _ _ :: res, _, y => outRest res y.2
  | .new _ :: res, _, y => outRest res y.2

def findH : List Hd → Nat → Option Hd
  | [], _ => none
  | h :: hd, r => match Nat.beq h.r r with
    | true => some h
    | false => findH hd r
def findX : List Bx → Nat → Option Bx
  | [], _ => none
  | x :: bx, i => match Nat.beq x.i i with
    | true => some x
    | false => findX bx i

theorem findH_ok : ∀ {hd : List Hd} {r : Nat} {h : Hd}, findH hd r = some h → h ∈ hd ∧ h.r = r
  | h0 :: hd, r, h, e => by
    simp only [findH] at e
    split at e
    · rename_i hb; injection e with e; subst e; exact ⟨List.mem_cons_self, Nat.eq_of_beq_eq_true hb⟩
    · obtain ⟨h1, h2⟩ := findH_ok e; exact ⟨List.mem_cons_of_mem _ h1, h2⟩
theorem findX_ok : ∀ {bx : List Bx} {i : Nat} {x : Bx}, findX bx i = some x → x ∈ bx ∧ x.i = i
  | x0 :: bx, i, x, e => by
    simp only [findX] at e
    split at e
    · rename_i hb; injection e with e; subst e; exact ⟨List.mem_cons_self, Nat.eq_of_beq_eq_true hb⟩
    · obtain ⟨h1, h2⟩ := findX_ok e; exact ⟨List.mem_cons_of_mem _ h1, h2⟩

/-- Rows that the caller keeps, with what the callee left in them. -/
def keptRows (hd : List Hd) : List (Nat × Row) → St
  | [] => []
  | p :: rows => match findH hd p.1 with
    | some h => (.r h.id, some (.r ⟨p.2.e, p.2.k, p.2.xs, h.row.ver + 1⟩)) :: keptRows hd rows
    | none => keptRows hd rows

def keptWr (s : St) (L : Nat) (hd : List Hd) (bx : List Bx) : Nat → (ps : List PK) → Ts (kk ps) → Option (St × List Loc)
  | _, [], _ => some ([], [])
  | i, .val _ k true :: ps, y => match keptWr s L hd bx (i + 1) ps y.2 with
    | some (W, N) => some (keptRows hd (lvRows (pR i) k y.1) ++ W, N)
    | none => none
  | i, .val _ _ false :: ps, y => keptWr s L hd bx (i + 1) ps y
  | i, .ptr k :: ps, y => match findX bx i with
    | some x => match s.getB x.b, keptWr s L hd bx (i + 1) ps y.2 with
      | some c, some (W, N) => some ((.b x.b, some (.b (c.take x.off ++ leaves k y.1 Lf.own (np L i) ++ c.drop (x.off + k.sz)))) :: (rowsW (lvRows (np L i) k y.1) ++ W),
          (lvRows (np L i) k y.1).map (fun p => Loc.r p.1) ++ N)
      | _, _ => none
    | none => none

/-- The ways back. -/
def cellsB (a b : Nat) : Nat → List (Nat × Nat)
  | 0 => []
  | n + 1 => (2 * (a + n), 2 * (b + n)) :: cellsB a b n

theorem cellsB_mem {x y : Nat} : ∀ {n j : Nat}, j < n → (2 * (x + j), 2 * (y + j)) ∈ cellsB x y n
  | n + 1, j, h => by
    by_cases e : j = n
    · subst e; exact List.mem_cons_self
    · exact List.mem_cons_of_mem _ (cellsB_mem (by omega))

def bkRes (L : Nat) : Nat → List RK → List (Nat × Nat)
  | _, [] => []
  | j, .val _ k :: res => cellsB (rR j) (nr L j) k.sz ++ bkRes L (j + 1) res
  | j, .new k :: res => (2 * rB j + 1, 2 * nr L j + 1) :: (cellsB (rR j) (nr L j) k.sz ++ bkRes L (j + 1) res)

def bkPs (L : Nat) (bx : List Bx) : Nat → List PK → List (Nat × Nat)
  | _, [] => []
  | i, .val _ _ _ :: ps => bkPs L bx (i + 1) ps
  | i, .ptr k :: ps => match findX bx i with
    | some x => (2 * pB i + 1, 2 * x.b + 1) :: (cellsB (pR i) (np L i) k.sz ++ bkPs L bx (i + 1) ps)
    | none => []

def bkHd : List Hd → List (Nat × Nat)
  | [] => []
  | h :: hd => match h.kp with
    | true => (2 * h.r, 2 * h.id) :: bkHd hd
    | false => bkHd hd

theorem bkHd_mem : ∀ {hd : List Hd} {h : Hd}, h ∈ hd → h.kp = true → (2 * h.r, 2 * h.id) ∈ bkHd hd
  | h0 :: hd, h, hm, hk => by
    simp only [bkHd]
    rcases List.mem_cons.1 hm with e | hm
    · subst e; rw [hk]; exact List.mem_cons_self
    · split
      · exact List.mem_cons_of_mem _ (bkHd_mem hm hk)
      · exact bkHd_mem hm hk

theorem rootL_nodup : ∀ {t : List (Nat × Nat)} {a b : Nat}, nodupB (t.map (·.1)) = true → (a, b) ∈ t → rootL t a = some b
  | (a0, b0) :: t, a, b, hn, hm => by
    obtain ⟨h1, h2⟩ := nodupB_cons hn
    simp only [rootL]
    rcases List.mem_cons.1 hm with e | hm
    · injection e with e1 e2; subst e1; subst e2; rw [if_pos rfl]
    · rw [if_neg, rootL_nodup h2 hm]
      intro e; subst e
      exact h1 (List.mem_map.2 ⟨(_, b), hm, rfl⟩)

theorem rootL_none {t : List (Nat × Nat)} {r : Nat} (h : ∀ p ∈ t, p.1 ≠ r) : rootL t r = none := by
  induction t with
  | nil => rfl
  | cons p t ih =>
    obtain ⟨a, b⟩ := p
    simp only [rootL]
    rw [if_neg (h _ List.mem_cons_self)]
    exact ih fun q hq => h q (List.mem_cons_of_mem _ hq)

/-- The ways in. -/
def tgHd (hd : List Hd) (bx : List Bx) : List (Nat × Nat) := hd.map (fun h => (2 * h.id, 2 * h.r)) ++ bx.map (fun x => (2 * x.b + 1, 2 * pB x.i + 1))

theorem get_split {W s : St} {l : Loc} {lv : LV} (h : St.get (W ++ s) l = some lv) : (l, some lv) ∈ W ∨ (inW W l = false ∧ s.get l = some lv) := by
  induction W with
  | nil => exact .inr ⟨rfl, h⟩
  | cons p W ih =>
    obtain ⟨l', v⟩ := p
    by_cases e : l' = l
    · subst e
      rw [List.cons_append, St.get_cons_same] at h
      subst h
      exact .inl List.mem_cons_self
    · rw [List.cons_append, St.get_cons_ne e] at h
      rcases ih h with h | ⟨h1, h2⟩
      · exact .inl (List.mem_cons_of_mem _ h)
      · refine .inr ⟨?_, h2⟩
        simp only [inW, List.any_cons, Bool.or_eq_false_iff]
        exact ⟨Loc.eqb_false.2 e, h1⟩

/-- An entry that is written behind a call, as far as others lean on it. -/
def EntW (s : St) (m m1 : Mem) (news : List Loc) : Loc → LV → Prop
  | .r id, .r row => Loc.r id ∈ news ∨ ∃ row0, s.get (.r id) = some (.r row0) ∧ m1.ρ id = m.ρ id ∧ row.k.sz = row0.k.sz ∧ row.xs.length = row0.xs.length ∧ row0.ver < row.ver
  | .b b, .b c => Loc.b b ∈ news ∨ ∃ c0, s.get (.b b) = some (.b c0) ∧ m1.β b = m.β b
  | _, _ => False

theorem callExt {s : St} {n : Nat} {w0 : World} {φ0 : Gh} {a : Act} {m : Mem} (hr : Rel n w0 φ0 s a m) {w' : World} {φ' : Col} {hd : List Hd} {bx : List Bx} {br : List Nat} {bk : List (Nat × Nat)}
    (hk : Keeps m.w w' (calCol (tgHd hd bx) br m.φ) φ') (hf : Fore m.w w' (calCol (tgHd hd bx) br m.φ) φ') {m1 : Mem} (hw1 : m1.w = w') (hφ1 : m1.φ = combC m.w.heap.size m.φ (calCol (tgHd hd bx) br m.φ) φ' bk)
    {W : St} {news : List Loc} (hnew : ∀ l ∈ news, ¬ Live s l) (hρ : ∀ id, Loc.r id ∉ news → m1.ρ id = m.ρ id) (hβ : ∀ b, Loc.b b ∉ news → m1.β b = m.β b) (hW : ∀ l lv, (l, some lv) ∈ W → EntW s m m1 news l lv) :
    Ext s m (W ++ (tombs (hd.map fun h => Loc.r h.id) ++ s)) m1 (Live s) := by
  refine ⟨?_, fun id r' hL hg => ?_, fun b c' hL hg => ?_, fun q i hL hg => ?_⟩
  · rw [hw1, hφ1]; exact comb_keeps hk
  · rcases get_split hg with h | ⟨h1, h2⟩
    · rcases hW _ _ h with h | ⟨row0, h3, h4, h5, h6, h7⟩
      · exact absurd hL (hnew _ h)
      · exact ⟨row0, h3, h4, h5, h6, Nat.le_of_lt h7, fun e => by omega⟩
    · obtain ⟨h3, h4⟩ := tombs_get h2
      have hni : Loc.r id ∉ news := fun h => hnew _ h hL
      refine ⟨r', h4, hρ id hni, rfl, rfl, Nat.le_refl _, fun _ hn j v hc => ?_⟩
      have hrow := hr.rw id r' h4
      have hblk := (row_block hrow hn).1
      have hroot : rootL (tgHd hd bx) (2 * id) = none := by
        refine rootL_none fun p hp e => ?_
        rcases List.mem_append.1 hp with hp | hp
        · obtain ⟨h, hh, rfl⟩ := List.mem_map.1 hp
          exact h3 (List.mem_map.2 ⟨h, hh, by simp only at e; rw [show h.id = id by omega]⟩)
        · obtain ⟨x, hx, rfl⟩ := List.mem_map.1 hp
          simp only at e; omega
      have hb := (comb_stay (bk := bk) hk hf hroot [] (rowAddr (m.ρ id)).block [] hblk (row_block hrow hn).2).1
      exact (World.cell?_of_block (by rw [add_block, hw1]; exact hb)).trans hc
  · rcases get_split hg with h | ⟨h1, h2⟩
    · rcases hW _ _ h with h | ⟨c0, h3, h4⟩
      · exact absurd hL (hnew _ h)
      · exact ⟨c0, h3, h4⟩
    · obtain ⟨h3, h4⟩ := tombs_get h2
      exact ⟨c', h4, hβ b fun h => hnew _ h hL⟩
  · rcases get_split hg with h | ⟨h1, h2⟩
    · exact (hW _ _ h).elim
    · exact (tombs_get h2).2

/-- An entry that is written behind a call. -/
def EntS (s1 : St) (m1 : Mem) : Loc → LV → Prop
  | .r id, .r row => OwL (Ow row.k m1.w m1.φ) row.e row.k.sz m1.w m1.φ [2 * id] row.xs (m1.ρ id)
  | .b b, .b c => BxC s1 m1 (m1.β b) b c
  | _, _ => True

theorem tgHd_row {hd : List Hd} {bx : List Bx} {id : Nat} (h : Loc.r id ∉ hd.map fun h => Loc.r h.id) : rootL (tgHd hd bx) (2 * id) = none := by
  refine rootL_none fun p hp e => ?_
  rcases List.mem_append.1 hp with hp | hp
  · obtain ⟨g, hh, rfl⟩ := List.mem_map.1 hp
    exact h (List.mem_map.2 ⟨g, hh, by simp only at e; rw [show g.id = id by omega]⟩)
  · obtain ⟨x, hx, rfl⟩ := List.mem_map.1 hp
    simp only at e; omega

theorem tgHd_box {hd : List Hd} {bx : List Bx} {b : Nat} (h : ∀ x ∈ bx, x.b ≠ b) : rootL (tgHd hd bx) (2 * b + 1) = none := by
  refine rootL_none fun p hp e => ?_
  rcases List.mem_append.1 hp with hp | hp
  · obtain ⟨g, hh, rfl⟩ := List.mem_map.1 hp
    simp only at e; omega
  · obtain ⟨x, hx, rfl⟩ := List.mem_map.1 hp
    simp only at e
    exact h x hx (by omega)

theorem callRel {s : St} {n : Nat} {w0 : World} {φ0 : Gh} {a : Act} {m : Mem} (hr : Rel n w0 φ0 s a m) {w' : World} {φ' : Col} {hd : List Hd} {bx : List Bx} {br : List Nat} {bk : List (Nat × Nat)}
    (hk : Keeps m.w w' (calCol (tgHd hd bx) br m.φ) φ') (hf : Fore m.w w' (calCol (tgHd hd bx) br m.φ) φ') (hl : Later m.w w') {m1 : Mem} (hw1 : m1.w = w') (hφ1 : m1.φ = combC m.w.heap.size m.φ (calCol (tgHd hd bx) br m.φ) φ' bk)
    {W : St} {news : List Loc} (hnew : ∀ l ∈ news, ¬ Live s l) (hρ : ∀ id, Loc.r id ∉ news → m1.ρ id = m.ρ id) (hβ : ∀ b, Loc.b b ∉ news → m1.β b = m.β b) (hW : ∀ l lv, (l, some lv) ∈ W → EntW s m m1 news l lv) (hsome : ∀ p ∈ W, p.2.isSome = true)
    (hn4 : ∀ id, Loc.r id ∈ news → 4096 ≤ id) (hn5 : ∀ b, Loc.b b ∈ news → 4096 ≤ b) (hnewW : ∀ l ∈ news, inW W l = true) (hbxW : ∀ x ∈ bx, inW W (.b x.b) = true)
    (hS : ∀ l lv, (l, some lv) ∈ W → EntS (W ++ (tombs (hd.map fun h => Loc.r h.id) ++ s)) m1 l lv) : Rel n w0 φ0 (W ++ (tombs (hd.map fun h => Loc.r h.id) ++ s)) a m1 := by
  have hX := callExt (W := W) hr hk hf hw1 hφ1 hnew hρ hβ hW
  have hT : ∀ d, St.get (W ++ (tombs (hd.map fun h => Loc.r h.id) ++ s)) (.t d) = s.get (.t d) := by
    intro d
    have h1 : inW W (.t d) = false := by
      cases e : inW W (.t d) with
      | false => rfl
      | true =>
        obtain ⟨p, hp, e1⟩ := inW_mem e
        obtain ⟨l, v⟩ := p
        have h2 := hsome _ hp
        cases v with
        | none => cases h2
        | some lv => simp only at e1; subst e1; exact (hW _ _ hp).elim
    rw [get_app h1]
    have : inW (tombs (hd.map fun h => Loc.r h.id)) (.t d) = false := by
      cases e : inW (tombs (hd.map fun h => Loc.r h.id)) (.t d) with
      | false => rfl
      | true =>
        obtain ⟨p, hp, e1⟩ := inW_mem e
        simp only [tombs, List.mem_map] at hp
        obtain ⟨l, ⟨h, _, rfl⟩, rfl⟩ := hp
        cases e1
    exact get_app this
  refine hr.change hT hX (fun id r hg => ?_) (fun b c hg => ?_) ?_ (by rw [hw1]; exact hl.size) (by rw [hw1]; exact hl.os) (by rw [hw1]; exact hl.tape) (by rw [hw1]; exact hl.output) (fun id r g1 g2 hg => by
    rcases get_split hg with h | ⟨h1, h2⟩
    · rcases hW _ _ h with h | ⟨row0, h3, h4, _⟩
      · have := hn4 id h; omega
      · exact ⟨⟨row0, h3⟩, h4⟩
    · exact ⟨⟨r, (tombs_get h2).2⟩, hρ id fun h => by have := hn4 id h; omega⟩) (fun b c g1 g2 hg => by
    rcases get_split hg with h | ⟨h1, h2⟩
    · rcases hW _ _ h with h | ⟨c0, h3, h4⟩
      · have := hn5 b h; omega
      · exact ⟨⟨c0, h3⟩, h4⟩
    · exact ⟨⟨c, (tombs_get h2).2⟩, hβ b fun h => by have := hn5 b h; omega⟩)
  · rcases get_split hg with h | ⟨h1, h2⟩
    · exact hS _ _ h
    · obtain ⟨h3, h4⟩ := tombs_get h2
      have hni : Loc.r id ∉ news := fun h => by rw [hnewW _ h] at h1; cases h1
      rw [hρ id hni, hw1, hφ1]
      exact (hr.rw id r h4).move (comb_stay hk hf (tgHd_row h3) []) (comb_keeps hk)
  · rcases get_split hg with h | ⟨h1, h2⟩
    · exact hS _ _ h
    · obtain ⟨h3, h4⟩ := tombs_get h2
      have hni : Loc.b b ∉ news := fun h => by rw [hnewW _ h] at h1; cases h1
      rw [hβ b hni]
      obtain ⟨cs, h5, h6, h7, h8⟩ := hr.bx b c h4
      have hlt : (m.β b).g < m.w.heap.size := (Array.getElem?_eq_some_iff.1 h8).1
      have hst := comb_stay (bk := bk) hk hf (tgHd_box (hd := hd) (bx := bx) (b := b) fun x hx e => by
        have := hbxW x hx
        rw [e, h1] at this; cases this) [] (m.β b).g [] h7 hlt
      exact ⟨cs, All2.imp (fun l hl v hv => hv.ext (hX.sub fun q hq => ⟨.b b, .b c, h4, List.mem_flatMap.2 ⟨l, hl, hq⟩⟩)) h5, h6, by rw [hφ1]; exact hst.2, by rw [hw1]; exact hst.1.trans h8⟩
  · rw [hw1, hφ1]; exact comb_fore hf

end Go.Proofs.Ytlgbhpphfimdbaa.Ev
