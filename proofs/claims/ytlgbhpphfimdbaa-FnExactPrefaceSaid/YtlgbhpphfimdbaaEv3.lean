/- The relation of a run's abstract state with the machine, what an operation's effect is, and when an effect is right. -/
import Derived.Test.YtlgbhpphfimdbaaEv2
import Derived.WalkKit
namespace Go.Proofs.Ytlgbhpphfimdbaa.Ev
set_option linter.unusedVariables false
set_option linter.unusedSimpArgs false

def BxC (s : St) (m : Mem) (pl : Plc) (b : Nat) (c : List Lf) : Prop :=
  ∃ cs : List Value, All2 (LfC s m) c cs ∧ (∀ u ∈ cs, u.oneCell' = true) ∧ m.φ pl.g = some [2 * b + 1] ∧ m.w.heap[pl.g]? = some (.cells (pl.pre ++ cs ++ pl.post).toArray pl.t (0, 0))

/-- What is remembered of a call's beginning: the colours, and where the parameters' rows lay. -/
structure Gh where
  φ : Col
  ρ : Nat → Value
  β : Nat → Plc

structure Rel (n : Nat) (w0 : World) (φ0 : Gh) (s : St) (a : Act) (m : Mem) : Prop where
  sz : a.tmps.size = n
  df : a.defers = []
  tm : ∀ d v, s.get (.t d) = some (.t v) → AVC s m v (a.tmps.getD d undef)
  rw : ∀ id r, s.get (.r id) = some (.r r) → OwL (Ow r.k m.w m.φ) r.e r.k.sz m.w m.φ [2 * id] r.xs (m.ρ id)
  bx : ∀ b c, s.get (.b b) = some (.b c) → BxC s m (m.β b) b c
  kp : Keeps w0 m.w φ0.φ m.φ
  fo : Fore w0 m.w φ0.φ m.φ
  nn : n ≤ 1000
  gr : ∀ id r, 1000 ≤ id → id < 4096 → s.get (.r id) = some (.r r) → m.ρ id = φ0.ρ id
  gb : ∀ b c, 1000 ≤ b → b < 4096 → s.get (.b b) = some (.b c) → m.β b = φ0.β b
  hs : w0.heap.size ≤ m.w.heap.size
  os : m.w.os = w0.os
  tp : m.w.tape = w0.tape
  ou : m.w.output = w0.output

def Live (s : St) (l : Loc) : Prop := ∃ l' lv, s.get l' = some lv ∧ l ∈ lv.men

def fresh (s : St) (l : Loc) : Bool := s.all fun p => match p.2 with | some lv => !(lv.men.any (Loc.eqb l)) | none => true

theorem get_mem : ∀ {s : St} {l : Loc} {lv : LV}, s.get l = some lv → (l, some lv) ∈ s
  | [], _, _, h => by simp [St.get] at h
  | (l', v) :: s, l, lv, h => by
    by_cases hl : l' = l
    · subst hl; rw [St.get_cons_same] at h; subst h; exact List.mem_cons_self
    · rw [St.get_cons_ne hl] at h; exact List.mem_cons_of_mem _ (get_mem h)

theorem fresh_live {s : St} {l : Loc} (h : fresh s l = true) : ¬ Live s l := by
  rintro ⟨l', lv, hg, hm⟩
  have h1 := (List.all_eq_true.1 h) _ (get_mem hg)
  simp only [Bool.not_eq_true', List.any_eq_false] at h1
  exact h1 l hm (Loc.eqb_iff.2 rfl)

theorem AVC.ext {s : St} {m : Mem} {s' : St} {m' : Mem} {v : AV} {x : Value} (h : AVC s m v x) (hx : Ext s m s' m' (· ∈ v.men)) : AVC s' m' v x := by
  cases v with
  | one l => exact LfC.ext h hx
  | agg ls =>
    obtain ⟨cs, rfl, h⟩ := h
    exact ⟨cs, rfl, All2.imp (fun l hl b hb => LfC.ext hb (hx.sub fun q hq => List.mem_flatMap.2 ⟨l, hl, hq⟩)) h⟩
  | tup ps =>
    obtain ⟨vs, rfl, h⟩ := h
    refine ⟨vs, rfl, All2.imp (fun p hp b hb => ?_) h⟩
    have hsub : ∀ l ∈ p.2, Ext s m s' m' (· ∈ l.men) := fun l hl => hx.sub fun q hq => List.mem_flatMap.2 ⟨p, hp, List.mem_flatMap.2 ⟨l, hl, hq⟩⟩
    obtain ⟨f, ls⟩ := p
    cases f with
    | true => obtain ⟨cs, rfl, h⟩ := hb; exact ⟨cs, rfl, All2.imp (fun l hl b hb => LfC.ext hb (hsub l hl)) h⟩
    | false => obtain ⟨l, rfl, h⟩ := hb; exact ⟨l, rfl, LfC.ext h (hsub l (by simp))⟩
  | und => exact h

theorem Rel.change {n : Nat} {w0 : World} {φ0 : Gh} {s s1 : St} {a : Act} {m m1 : Mem} (h : Rel n w0 φ0 s a m)
    (hT : ∀ d, s1.get (.t d) = s.get (.t d)) (hX : Ext s m s1 m1 (Live s))
    (hR : ∀ id r, s1.get (.r id) = some (.r r) → OwL (Ow r.k m1.w m1.φ) r.e r.k.sz m1.w m1.φ [2 * id] r.xs (m1.ρ id))
    (hB : ∀ b c, s1.get (.b b) = some (.b c) → BxC s1 m1 (m1.β b) b c)
    (hF : Fore m.w m1.w m.φ m1.φ) (hs : m.w.heap.size ≤ m1.w.heap.size) (os : m1.w.os = m.w.os) (tp : m1.w.tape = m.w.tape) (ou : m1.w.output = m.w.output)
    (hG : ∀ id r, 1000 ≤ id → id < 4096 → s1.get (.r id) = some (.r r) → (∃ r', s.get (.r id) = some (.r r')) ∧ m1.ρ id = m.ρ id)
    (hGb : ∀ b c, 1000 ≤ b → b < 4096 → s1.get (.b b) = some (.b c) → (∃ c', s.get (.b b) = some (.b c')) ∧ m1.β b = m.β b) : Rel n w0 φ0 s1 a m1 where
  sz := h.sz
  df := h.df
  tm := fun d v hd => (h.tm d v (by rw [← hT]; exact hd)).ext (hX.sub fun l hl => ⟨.t d, .t v, by rw [← hT]; exact hd, hl⟩)
  rw := hR
  bx := hB
  kp := h.kp.trans hX.keep h.hs
  fo := h.fo.trans hF h.hs
  nn := h.nn
  gr := fun id r h1 h2 h3 => let ⟨⟨r', h4⟩, h5⟩ := hG id r h1 h2 h3; h5.trans (h.gr id r' h1 h2 h4)
  gb := fun b c h1 h2 h3 => let ⟨⟨c', h4⟩, h5⟩ := hGb b c h1 h2 h3; h5.trans (h.gb b c' h1 h2 h4)
  hs := Nat.le_trans h.hs hs
  os := os.trans h.os
  tp := tp.trans h.tp
  ou := ou.trans h.ou

theorem Ext.same {s s1 : St} {m : Mem} (h : ∀ l, (∀ d, l ≠ .t d) → s1.get l = s.get l) (L : Loc → Prop) : Ext s m s1 m L where
  keep := Keeps.refl _ _
  row := fun id r' _ hr => ⟨r', by rw [← h _ (by simp)]; exact hr, rfl, rfl, rfl, Nat.le_refl _, fun _ _ _ _ hc => hc⟩
  box := fun b c' _ hc => ⟨c', by rw [← h _ (by simp)]; exact hc, rfl⟩
  ix := fun q i _ hi => by rw [← h _ (by simp)]; exact hi

theorem put_getD {a : Act} {d : Nat} {v : Value} (h : d < a.tmps.size) (i : Nat) : (a.put (some d) v).tmps.getD i undef = if i = d then v else a.tmps.getD i undef := by
  simp only [Act.put, Array.getD_eq_getD_getElem?, Array.getElem?_setIfInBounds]
  by_cases e : i = d
  · subst e; simp [h]
  · have e' : d ≠ i := fun hh => e hh.symm
    simp [e, e']

/-- A temporary is written. -/
theorem Rel.put {n : Nat} {w0 : World} {φ0 : Gh} {s : St} {a : Act} {m : Mem} (h : Rel n w0 φ0 s a m) {d : Nat} {v : AV} {x : Value} (hd : d < n) (hv : AVC s m v x) :
    Rel n w0 φ0 ((.t d, some (.t v)) :: s) (a.put (some d) x) m := by
  have hsame : ∀ l, (∀ d, l ≠ .t d) → St.get ((.t d, some (.t v)) :: s) l = s.get l := fun l hl => St.get_cons_ne (hl d).symm _ _
  have hE : ∀ L, Ext s m ((.t d, some (.t v)) :: s) m L := Ext.same hsame
  refine ⟨?_, h.df, fun i u hi => ?_, fun id r hr => h.rw id r (by rw [← hsame _ (by simp)]; exact hr), fun b c hc => ?_, h.kp, h.fo, h.nn, fun id r h1 h2 hr => h.gr id r h1 h2 (by rw [← hsame _ (by simp)]; exact hr), fun b c h1 h2 hc => h.gb b c h1 h2 (by rw [← hsame _ (by simp)]; exact hc), h.hs, h.os, h.tp, h.ou⟩
  · simp [Act.put, h.sz]
  · rw [put_getD (by rw [h.sz]; exact hd)]
    by_cases e : i = d
    · subst e
      rw [St.get_cons_same] at hi
      injection hi with hi; injection hi with hi
      rw [if_pos rfl, ← hi]
      exact hv.ext (hE _)
    · rw [if_neg e]
      rw [St.get_cons_ne (by intro hh; injection hh with hh; exact e hh.symm)] at hi
      exact (h.tm i u hi).ext (hE _)
  · obtain ⟨cs, h1, h2, h3, h4⟩ := h.bx b c (by rw [← hsame _ (by simp)]; exact hc)
    exact ⟨cs, All2.imp (fun l hl b hb => hb.ext (hE _)) h1, h2, h3, h4⟩

/-- A temporary is undefined: nothing is known of it. -/
theorem Rel.putNone {n : Nat} {w0 : World} {φ0 : Gh} {s : St} {a : Act} {m : Mem} (h : Rel n w0 φ0 s a m) (d : Option Nat) (x : Value) (hg : ∀ i, d = some i → s.get (.t i) = none) :
    Rel n w0 φ0 s (a.put d x) m := by
  refine ⟨?_, ?_, fun i u hi => ?_, h.rw, h.bx, h.kp, h.fo, h.nn, h.gr, h.gb, h.hs, h.os, h.tp, h.ou⟩
  · cases d <;> simp [Act.put, h.sz]
  · cases d <;> exact h.df
  · cases d with
    | none => exact h.tm i u hi
    | some d =>
      by_cases hd : d < n
      · rw [put_getD (by rw [h.sz]; exact hd)]
        by_cases e : i = d
        · subst e; rw [hg _ rfl] at hi; cases hi
        · rw [if_neg e]; exact h.tm i u hi
      · have : (a.put (some d) x).tmps = a.tmps := by
          simp only [Act.put]; exact Array.setIfInBounds_eq_of_size_le (by rw [h.sz]; omega)
        rw [this]; exact h.tm i u hi

/-- What an operation does to the state: what it reads, what it writes, which places it makes. -/
structure Δ where
  rd : List (Loc × LV)
  wr : List (Loc × Option LV)
  new : List Loc

def Reads (s : St) (rd : List (Loc × LV)) : Prop := ∀ p ∈ rd, s.get p.1 = some p.2

def Good (P : Program) (n : Nat) (o : Oper) (δ : Δ) : Prop :=
  ∀ w0 φ0 s a m, Rel n w0 φ0 s a m → Reads s δ.rd → (∀ l ∈ δ.new, ¬ Live s l) →
    ∀ (next : Act → World → Prop) (Q : Exit → Act → World → Prop), (∀ a' m', Rel n w0 φ0 (δ.wr ++ s) a' m' → next a' m'.w) → o.wp P a m.w next Q

/-- An operation that changes no memory. -/
def Pure1 (P : Program) (n : Nat) (o : Oper) (rd : List (Loc × LV)) (xw : List (Nat × Int)) (v : AV) : Prop :=
  ∀ w0 φ0 s a m, Rel n w0 φ0 s a m → Reads s rd → (∀ q ∈ xw, ¬ Live s (.x q.1)) → ∃ val, (execOp a.eval o).run P m.w = .ok (.value val) m.w ∧
    AVC (xw.map (fun q => (Loc.x q.1, some (LV.x q.2))) ++ s) m v val

theorem get_xw {xw : List (Nat × Int)} {s : St} {l : Loc} (hl : ∀ q, l ≠ .x q) : St.get (xw.map (fun q => (Loc.x q.1, some (LV.x q.2))) ++ s) l = s.get l := by
  induction xw with
  | nil => rfl
  | cons q xw ih => rw [List.map_cons, List.cons_append, St.get_cons_ne (hl _).symm]; exact ih

theorem get_xw_x {xw : List (Nat × Int)} {s : St} {q : Nat} {i : Int} (h : St.get (xw.map (fun q => (Loc.x q.1, some (LV.x q.2))) ++ s) (.x q) = some (.x i)) : (∃ p ∈ xw, p.1 = q) ∨ s.get (.x q) = some (.x i) := by
  induction xw with
  | nil => exact .inr h
  | cons p xw ih =>
    rw [List.map_cons, List.cons_append] at h
    by_cases e : p.1 = q
    · exact .inl ⟨p, List.mem_cons_self, e⟩
    · rw [St.get_cons_ne (by intro hh; injection hh with hh; exact e hh)] at h
      rcases ih h with ⟨p', hp, e'⟩ | h
      · exact .inl ⟨p', List.mem_cons_of_mem _ hp, e'⟩
      · exact .inr h

theorem Rel.xw {n : Nat} {w0 : World} {φ0 : Gh} {s : St} {a : Act} {m : Mem} (h : Rel n w0 φ0 s a m) (xw : List (Nat × Int)) (hf : ∀ q ∈ xw, ¬ Live s (.x q.1)) :
    Rel n w0 φ0 (xw.map (fun q => (Loc.x q.1, some (LV.x q.2))) ++ s) a m := by
  have hE : Ext s m (xw.map (fun q => (Loc.x q.1, some (LV.x q.2))) ++ s) m (Live s) := by
    refine ⟨Keeps.refl _ _, fun id r' _ hr => ⟨r', by rwa [get_xw (by simp)] at hr, rfl, rfl, rfl, Nat.le_refl _, fun _ _ _ _ hc => hc⟩, fun b c' _ hc => ⟨c', by rwa [get_xw (by simp)] at hc, rfl⟩, fun q i hL hi => ?_⟩
    rcases get_xw_x hi with ⟨p, hp, e⟩ | hi
    · exact absurd (e ▸ hL) (hf p hp)
    · exact hi
  refine h.change (fun d => get_xw (by simp)) hE (fun id r hr => h.rw id r (by rwa [get_xw (by simp)] at hr)) (fun b c hc => ?_) (Fore.refl _ _) (Nat.le_refl _) rfl rfl rfl (fun id r _ _ hg => ⟨⟨r, by rwa [get_xw (by simp)] at hg⟩, rfl⟩) (fun b c _ _ hg => ⟨⟨c, by rwa [get_xw (by simp)] at hg⟩, rfl⟩)
  rw [get_xw (by simp)] at hc
  obtain ⟨cs, h1, h2, h3, h4⟩ := h.bx b c hc
  exact ⟨cs, All2.imp (fun l hl b' hb => hb.ext (hE.sub fun q hq => ⟨.b b, .b c, hc, List.mem_flatMap.2 ⟨l, hl, hq⟩⟩)) h1, h2, h3, h4⟩

theorem Pure1.good {P : Program} {n : Nat} {o : Oper} {rd : List (Loc × LV)} {xw : List (Nat × Int)} {v : AV} {d : Nat} (h : Pure1 P n o rd xw v) (ho : o.dst = some d) (hd : d < n) :
    Good P n o ⟨rd, (.t d, some (.t v)) :: xw.map (fun q => (Loc.x q.1, some (LV.x q.2))), xw.map (fun q => Loc.x q.1)⟩ := by
  intro w0 φ0 s a m hr hrd hnew next Q hn
  have hf : ∀ q ∈ xw, ¬ Live s (.x q.1) := fun q hq => hnew _ (List.mem_map.2 ⟨q, hq, rfl⟩)
  obtain ⟨val, hrun, hv⟩ := h w0 φ0 s a m hr hrd hf
  simp only [Oper.wp, hrun, Oper.upon, ho]
  exact hn _ m ((hr.xw xw hf).put hd hv)

end Go.Proofs.Ytlgbhpphfimdbaa.Ev
