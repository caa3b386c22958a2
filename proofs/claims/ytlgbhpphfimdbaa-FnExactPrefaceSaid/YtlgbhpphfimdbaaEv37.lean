/- Into a function: the state at its beginning. -/
import Derived.Test.YtlgbhpphfimdbaaEv36
namespace Go.Proofs.Ytlgbhpphfimdbaa.Ev
set_option linter.unusedVariables false
set_option linter.unusedSimpArgs false

def pvAV (g : Bool) (ls : List Lf) : AV := match g with
  | true => .agg ls
  | false => match ls with
    | [l] => .one l
    | ls => .agg ls

def enSt : Nat → (ps : List PK) → Ts (ins ps) → St
  | _, [], _ => []
  | i, .val g k _ :: ps, x => (.t i, some (.t (pvAV g (leaves k x.1 Lf.own (pR i))))) :: (rowsW (lvRows (pR i) k x.1) ++ enSt (i + 1) ps x.2)
  | i, .ptr k :: ps, x => (.t i, some (.t (.one (.ptr (pB i) 0)))) :: (.b (pB i), some (.b (leaves k x.1 Lf.own (pR i)))) :: (rowsW (lvRows (pR i) k x.1) ++ enSt (i + 1) ps x.2)

/-- A parameter's cells at the beginning. -/
def acell (w : World) (pls : Nat → Plc) (ps : List PK) (args : List Value) (i : Nat) : List Value := match ps[i]? with
  | some (.ptr _) => (cellsAt w (pls i).g).drop (pls i).pre.length
  | _ => match args[i]? with
    | some v => v.cells.toList
    | none => []

def enMem (w : World) (φ : Col) (pls : Nat → Plc) (ps : List PK) (args : List Value) : Mem :=
  ⟨w, φ, fun id => (acell w pls ps args ((id - 1000) / 100)).getD ((id - 1000) % 100) undef, fun b => pls (b - 1000)⟩

def enGh (m : Mem) : Gh := ⟨m.φ, m.ρ, m.β⟩

def EntI (s1 : St) (m1 : Mem) (args : List Value) : Loc → LV → Prop
  | .t d, .t v => ∃ u, args[d]? = some u ∧ AVC s1 m1 v u
  | .r id, .r row => OwL (Ow row.k m1.w m1.φ) row.e row.k.sz m1.w m1.φ [2 * id] row.xs (m1.ρ id)
  | .b b, .b c => BxC s1 m1 (m1.β b) b c
  | _, _ => False

theorem roots_id (w : World) (φ : Col) (a : Nat) : ∀ n, Roots w φ φ (cellsB a a n)
  | 0 => fun p hp => (nomatch hp)
  | n + 1 => fun p hp q => by
    rcases List.mem_cons.1 hp with e | hp
    · subst e; exact fun b q' hb _ => ⟨rfl, hb⟩
    · exact roots_id w φ a n p hp q

theorem toV_cells {w : World} {φ : Col} {base : Nat} {g : Bool} {k : K} {x : k.T} {cs : List Value} (h : LvC w φ base k x cs) (hg : g = true ∨ k.sz = 1) : (toV g cs).cells.toList = cs := by
  have := vcells_val (w' := w) h hg
  cases g with
  | true => simp [toV, Value.cells]
  | false =>
    have hn : k.sz = 1 := hg.resolve_left (by simp)
    have hl := h.len
    rw [hn] at hl
    obtain ⟨c, rfl⟩ : ∃ c, cs = [c] := by
      cases cs with
      | nil => simp at hl
      | cons c cs => exact ⟨c, by simpa using hl⟩
    have h1 := h.one c (by simp)
    simp only [toV]
    cases c <;> first | rfl | (simp [Value.oneCell'] at h1)

theorem pvAV_ok {g : Bool} {ls : List Lf} {cs : List Value} {s : St} {m : Mem} {n : Nat} (h : All2 (LfC s m) ls cs) (hl : cs.length = n) (hg : g = true ∨ n = 1) : AVC s m (pvAV g ls) (toV g cs) := by
  cases g with
  | true => exact ⟨cs, rfl, h⟩
  | false =>
    have hn : n = 1 := hg.resolve_left (by simp)
    subst hn
    cases cs with
    | nil => simp at hl
    | cons c cs =>
      have : cs = [] := List.eq_nil_of_length_eq_zero (by simpa using hl)
      subst this
      cases ls with
      | nil => exact h.elim
      | cons l ls =>
        have : ls = [] := by cases ls with
          | nil => rfl
          | cons _ _ => exact h.2.elim
        subst this
        exact h.1

theorem enEnt {w : World} {φ : Col} {pls : Nat → Plc} {ps0 : List PK} {args : List Value} {s1 : St} (hsz : ∀ p ∈ ps0, szOk p.k = true) :
    ∀ {ps : List PK} {i : Nat} {x : Ts (ins ps)} {vs : List Value}, ArgsC w φ pls i ps x vs → (∀ idx p, ps[idx]? = some p → ps0[i + idx]? = some p) → (∀ idx v, vs[idx]? = some v → args[i + idx]? = some v) →
      (∀ l lv, (l, some lv) ∈ enSt i ps x → EntI s1 (enMem w φ pls ps0 args) args l lv) ∧ vs.length = ps.length
  | [], i, x, vs, h, _, _ => by
    simp only [ArgsC] at h; subst h
    exact ⟨fun l lv hm => (nomatch hm), rfl⟩
  | .val g k kp :: ps, i, x, vs, h, hps, hvs => by
    obtain ⟨cs, r, rfl, hl, hg, hrest⟩ := h
    have hp0 := hps 0 _ rfl
    have hv0 := hvs 0 _ rfl
    rw [Nat.add_zero] at hp0 hv0
    have hsz0 : k.sz ≤ 100 := Nat.le_of_ble_eq_true (hsz _ (List.mem_of_getElem? hp0))
    obtain ⟨f1, f2⟩ := enEnt (s1 := s1) hsz hrest (fun idx p hp => by
      have := hps (idx + 1) p (by simpa using hp)
      rwa [show i + (idx + 1) = i + 1 + idx by omega] at this) (fun idx v hv => by
      have := hvs (idx + 1) v (by simpa using hv)
      rwa [show i + (idx + 1) = i + 1 + idx by omega] at this)
    have hac : acell w pls ps0 args i = cs := by
      simp only [acell, hp0, hv0]; exact toV_cells hl hg
    obtain ⟨e1, e2⟩ := back_rows (s1 := s1) (m1 := enMem w φ pls ps0 args) (nb := pR i) hl (.inr (Keeps.refl _ _)) (roots_id _ _ _ _) rfl rfl fun c v hc hlk => by
      have hlt := (List.getElem?_eq_some_iff.1 hc).1
      have hlen := hl.len
      show (acell w pls ps0 args ((pR i + c - 1000) / 100)).getD ((pR i + c - 1000) % 100) undef = v
      have h1 : (pR i + c - 1000) / 100 = i := by simp only [pR]; omega
      have h2 : (pR i + c - 1000) % 100 = c := by simp only [pR]; omega
      rw [h1, h2, hac, List.getD_eq_getElem?_getD, hc]; rfl
    refine ⟨fun l lv hm => ?_, by simp [f2]⟩
    rcases List.mem_cons.1 hm with e | hm
    · injection e with e1' e2'; injection e2' with e2'; subst e1'; subst e2'
      exact ⟨_, hv0, pvAV_ok e2 hl.len hg⟩
    · rcases List.mem_append.1 hm with hm | hm
      · have := e1 l lv hm
        obtain ⟨c, row, rfl, rfl, _⟩ := rowsW_mem hm
        exact this
      · exact f1 l lv hm
  | .ptr k :: ps, i, x, vs, h, hps, hvs => by
    obtain ⟨cs, r, rfl, ⟨hheap, hcol⟩, hl, hrest⟩ := h
    have hp0 := hps 0 _ rfl
    have hv0 := hvs 0 _ rfl
    rw [Nat.add_zero] at hp0 hv0
    have hsz0 : k.sz ≤ 100 := Nat.le_of_ble_eq_true (hsz _ (List.mem_of_getElem? hp0))
    obtain ⟨f1, f2⟩ := enEnt (s1 := s1) hsz hrest (fun idx p hp => by
      have := hps (idx + 1) p (by simpa using hp)
      rwa [show i + (idx + 1) = i + 1 + idx by omega] at this) (fun idx v hv => by
      have := hvs (idx + 1) v (by simpa using hv)
      rwa [show i + (idx + 1) = i + 1 + idx by omega] at this)
    have hac : acell w pls ps0 args i = cs ++ (pls i).post := by
      simp only [acell, hp0, cellsAt, hheap]
      rw [List.append_assoc, List.drop_left]
    obtain ⟨e1, e2⟩ := back_rows (s1 := s1) (m1 := enMem w φ pls ps0 args) (nb := pR i) hl (.inr (Keeps.refl _ _)) (roots_id _ _ _ _) rfl rfl fun c v hc hlk => by
      have hlt := (List.getElem?_eq_some_iff.1 hc).1
      have hlen := hl.len
      show (acell w pls ps0 args ((pR i + c - 1000) / 100)).getD ((pR i + c - 1000) % 100) undef = v
      have h1 : (pR i + c - 1000) / 100 = i := by simp only [pR]; omega
      have h2 : (pR i + c - 1000) % 100 = c := by simp only [pR]; omega
      rw [h1, h2, hac, List.getD_eq_getElem?_getD, List.getElem?_append_left hlt, hc]; rfl
    have hβ : (enMem w φ pls ps0 args).β (pB i) = pls i := by
      show pls (pB i - 1000) = pls i
      rw [show pB i - 1000 = i by simp only [pB]; omega]
    refine ⟨fun l lv hm => ?_, by simp [f2]⟩
    rcases List.mem_cons.1 hm with e | hm
    · injection e with e1' e2'; injection e2' with e2'; subst e1'; subst e2'
      exact ⟨_, hv0, rfl, fun c _ => by rw [hβ]; rfl⟩
    · rcases List.mem_cons.1 hm with e | hm
      · injection e with e1' e2'; injection e2' with e2'; subst e1'; subst e2'
        show BxC s1 _ ((enMem w φ pls ps0 args).β (pB i)) (pB i) _
        rw [hβ]
        exact ⟨cs, e2, hl.one, hcol, hheap⟩
      · rcases List.mem_append.1 hm with hm | hm
        · have := e1 l lv hm
          obtain ⟨c, row, rfl, rfl, _⟩ := rowsW_mem hm
          exact this
        · exact f1 l lv hm

theorem enter_rel {w : World} {φ : Col} {pls : Nat → Plc} {ps : List PK} {x : Ts (ins ps)} {args : List Value} (h : ArgsC w φ pls 0 ps x args) (hsz : ∀ p ∈ ps, szOk p.k = true) {n : Nat} (hn : ps.length ≤ n) (hn2 : n ≤ 1000) :
    Rel n w (enGh (enMem w φ pls ps args)) (enSt 0 ps x) ⟨args.toArray ++ Array.replicate (n - args.toArray.size) undef, []⟩ (enMem w φ pls ps args) := by
  obtain ⟨f1, f2⟩ := enEnt (s1 := enSt 0 ps x) hsz h (fun idx p hp => by rw [Nat.zero_add]; exact hp) (fun idx v hv => by rw [Nat.zero_add]; exact hv)
  refine ⟨by simp; omega, rfl, fun d v hg => ?_, fun id r hg => f1 _ _ (get_mem hg), fun b c hg => f1 _ _ (get_mem hg), Keeps.refl _ _, Fore.refl _ _, hn2, fun _ _ _ _ _ => rfl, fun _ _ _ _ _ => rfl, Nat.le_refl _, rfl, rfl, rfl⟩
  obtain ⟨u, hu, hv⟩ := f1 _ _ (get_mem hg)
  have hlt := (List.getElem?_eq_some_iff.1 hu).1
  have : (args.toArray ++ Array.replicate (n - args.toArray.size) undef).getD d undef = u := by
    rw [Array.getD_eq_getD_getElem?, Array.getElem?_append_left (by simpa using hlt)]
    simp [hu]
  show AVC _ _ v ((args.toArray ++ Array.replicate (n - args.toArray.size) undef).getD d undef)
  rw [this]; exact hv

end Go.Proofs.Ytlgbhpphfimdbaa.Ev
