/- Behind a call: what the caller keeps. -/
import Derived.Test.YtlgbhpphfimdbaaEv28
namespace Go.Proofs.Ytlgbhpphfimdbaa.Ev
set_option linter.unusedVariables false
set_option linter.unusedSimpArgs false

structure HdF (ps : List PK) (i : Nat) (s : St) (m : Mem) (vals : List Value) (h : Hd) (idx j : Nat) (p : PK) : Prop where
  pos : ps[idx]? = some p
  r : h.r = pR (i + idx) + j
  lt : j < p.k.sz
  lk : leafK p.k j = some (h.row.e, h.row.k)
  st : s.get (.r h.id) = some (.r h.row)
  val : ∀ g k kp, p = .val g k kp → h.kp = kp ∧ ∀ v, vals[idx]? = some v → ∃ cs, v = toV g cs ∧ cs.length = k.sz ∧ (g = true ∨ k.sz = 1) ∧ cs[j]? = some (m.ρ h.id)

structure BxF (ps : List PK) (i : Nat) (s : St) (rds : Rds) (z : Bx) (idx : Nat) (k : K) (c : List Lf) : Prop where
  pos : ps[idx]? = some (.ptr k)
  i : z.i = i + idx
  sz : z.sz = k.sz
  get : s.getB z.b = some c
  rd : (Loc.b z.b, LV.b c) ∈ rds
  fit : z.off + z.sz ≤ c.length

theorem HdF.succ {ps : List PK} {i : Nat} {s : St} {m : Mem} {vals : List Value} {h : Hd} {idx j : Nat} {p q : PK} {u : Value} (hf : HdF ps (i + 1) s m vals h idx j p) : HdF (q :: ps) i s m (u :: vals) h (idx + 1) j p :=
  ⟨by simpa using hf.pos, by have := hf.r; simp only [pR] at this ⊢; omega, hf.lt, hf.lk, hf.st, fun g k kp e => ⟨(hf.val g k kp e).1, fun v hv => (hf.val g k kp e).2 v (by simpa using hv)⟩⟩

theorem gArgs_facts {cfg : Cfg} {s s' : St} {n : Nat} {w0 : World} {φ0 : Gh} {a : Act} {m : Mem} (hr : Rel n w0 φ0 s' a m) :
    ∀ {ps : List PK} {i : Nat} {vs : List AV} {x : Ts (ins ps)} {hd : List Hd} {bo : List Nat} {bx : List Bx} {rds : Rds}, gArgs cfg s i ps vs = some (x, hd, bo, bx, rds) → Reads s' rds → ∀ {vals : List Value}, All2 (AVC s' m) vs vals →
      (∀ h ∈ hd, ∃ idx j p, HdF ps i s' m vals h idx j p) ∧ (∀ z ∈ bx, ∃ idx k c, BxF ps i s rds z idx k c)
  | [], i, vs, x, hd, bo, bx, rds, h, hrd, vals, hv => by
    cases vs with
    | nil =>
      simp only [gArgs] at h; injection h with h; injection h with _ h; injection h with h1 h; injection h with _ h; injection h with h2 _; subst h1; subst h2
      exact ⟨fun h hh => (nomatch hh), fun h hh => (nomatch hh)⟩
    | cons _ _ => simp [gArgs] at h
  | .val g k kp :: ps, i, vs, x, hd, bo, bx, rds, h, hrd, vals, hv => by
    cases vs with
    | nil => simp [gArgs] at h
    | cons v vs =>
      cases vals with
      | nil => exact hv.elim
      | cons u vals =>
        simp only [gArgs] at h
        split at h
        · rename_i ls els
          split at h
          · rename_i x1 hd1 bo1 rd1 e1
            split at h
            · rename_i x2 hd2 bo2 bx2 rd2 e2
              injection h with h; injection h with h1 h; injection h with h2 h; injection h with h3 h; injection h with h4 h5; subst h1; subst h2; subst h3; subst h4; subst h5
              obtain ⟨hrd1, hrd2⟩ := Reads.app.1 hrd
              obtain ⟨cs, rfl, hcs, hg⟩ := avG_ok els hv.1
              obtain ⟨f1, f2⟩ := gArgs_facts hr e2 hrd2 hv.2
              obtain ⟨hlen, _, hc⟩ := gv_cells hr e1 hrd1 hcs
              have hcl : cs.length = k.sz := by rw [← hcs.len, hlen]; simp
              refine ⟨fun h hh => ?_, fun z hz => ?_⟩
              · rcases List.mem_append.1 hh with hh | hh
                · obtain ⟨j, g1, g2, g3, g4, g5, g6⟩ := hc h hh
                  refine ⟨0, j, .val g k kp, rfl, g1, g2, g4, g5, fun g' k' kp' e => ?_⟩
                  injection e with e1 e2 e3; subst e1; subst e2; subst e3
                  exact ⟨g6, fun v hv => by
                    simp at hv; subst hv
                    exact ⟨cs, rfl, hcl, hg, g3⟩⟩
                · obtain ⟨idx, j, p, hf⟩ := f1 h hh
                  exact ⟨idx + 1, j, p, hf.succ⟩
              · obtain ⟨idx, k', c, hf⟩ := f2 z hz
                exact ⟨idx + 1, k', c, by simpa using hf.pos, by have := hf.i; omega, hf.sz, hf.get, List.mem_append_right _ hf.rd, hf.fit⟩
            · cases h
          · cases h
        · cases h
  | .ptr k :: ps, i, vs, x, hd, bo, bx, rds, h, hrd, vals, hv => by
    cases vs with
    | nil => simp [gArgs] at h
    | cons v vs =>
      cases vals with
      | nil => exact hv.elim
      | cons u vals =>
        simp only [gArgs] at h
        split at h
        · rename_i b off epv
          split at h
          · rename_i c hcb
            split at h
            · rename_i x1 hd1 bo1 rd1 e1
              split at h
              · rename_i x2 hd2 bo2 bx2 rd2 e2
                injection h with h; injection h with h1 h; injection h with h2 h; injection h with h3 h; injection h with h4 h5; subst h1; subst h2; subst h3; subst h4; subst h5
                obtain ⟨hrd1, hrd2⟩ := Reads.app.1 hrd
                have hgb := hrd1 (.b b, .b c) List.mem_cons_self
                obtain ⟨cs, hcs, _, _, _⟩ := hr.bx b c hgb
                obtain ⟨f1, f2⟩ := gArgs_facts hr e2 hrd2 hv.2
                obtain ⟨hlen, _, hc⟩ := gv_cells hr e1 (fun p hp => hrd1 p (List.mem_cons_of_mem _ hp)) (All2.take k.sz (All2.drop off hcs))
                have hpos := k.sz_pos
                simp only [List.length_take, List.length_drop, List.length_nil] at hlen
                refine ⟨fun h hh => ?_, fun z hz => ?_⟩
                · rcases List.mem_append.1 hh with hh | hh
                  · obtain ⟨j, g1, g2, g3, g4, g5, g6⟩ := hc h hh
                    exact ⟨0, j, .ptr k, rfl, g1, g2, g4, g5, fun g' k' kp' e => by cases e⟩
                  · obtain ⟨idx, j, p, hf⟩ := f1 h hh
                    exact ⟨idx + 1, j, p, hf.succ⟩
                · rcases List.mem_cons.1 hz with e | hz
                  · subst e
                    exact ⟨0, k, c, rfl, rfl, rfl, hcb, List.mem_append_left _ List.mem_cons_self, by simp only; omega⟩
                  · obtain ⟨idx, k', c, hf⟩ := f2 z hz
                    exact ⟨idx + 1, k', c, by simpa using hf.pos, by have := hf.i; omega, hf.sz, hf.get, List.mem_append_right _ hf.rd, hf.fit⟩
              · cases h
            · cases h
          · cases h
        · cases h

/-- Kinds that come back through parameters. -/
def kkAll (f : K → Bool) : List PK → Bool
  | [] => true
  | .val _ k true :: ps => f k && kkAll f ps
  | .val _ _ false :: ps => kkAll f ps
  | .ptr k :: ps => f k && kkAll f ps

theorem keptRows_mem {hd : List Hd} : ∀ {rows : List (Nat × Row)} {l : Loc} {lv : LV}, (l, some lv) ∈ keptRows hd rows → ∃ c row h, (c, row) ∈ rows ∧ h ∈ hd ∧ h.r = c ∧ l = .r h.id ∧ lv = .r ⟨row.e, row.k, row.xs, h.row.ver + 1⟩
  | [], _, _, h => nomatch h
  | p :: rows, l, lv, h => by
    simp only [keptRows] at h
    split at h
    · rename_i h0 hf
      rcases List.mem_cons.1 h with e | h
      · injection e with e1 e2; injection e2 with e2
        obtain ⟨g1, g2⟩ := findH_ok hf
        exact ⟨p.1, p.2, h0, List.mem_cons_self, g1, g2, e1, e2⟩
      · obtain ⟨c, row, h', g1, g2⟩ := keptRows_mem h
        exact ⟨c, row, h', List.mem_cons_of_mem _ g1, g2⟩
    · obtain ⟨c, row, h', g1, g2⟩ := keptRows_mem h
      exact ⟨c, row, h', List.mem_cons_of_mem _ g1, g2⟩

structure KeepEnv (L : Nat) (w' : World) (φ' φ1 : Col) (pls : Nat → Plc) (rv : List Value) (news : List Loc) (m1 : Mem) (s s' : St) (m : Mem) (ps0 : List PK) (args : List Value) (hd : List Hd) (bx : List Bx) (rds : Rds) : Prop where
  new : NewOk L w' φ' φ1 pls rv news m1
  hdf : ∀ h ∈ hd, ∃ idx j p, HdF ps0 0 s' m args h idx j p
  bxf : ∀ z ∈ bx, ∃ idx k c, BxF ps0 0 s rds z idx k c
  sz : ∀ p ∈ ps0, szOk p.k = true
  rHd : Roots w' φ' φ1 (bkHd hd)
  hnew : ∀ h ∈ hd, Loc.r h.id ∉ news
  bnew : ∀ z ∈ bx, Loc.b z.b ∉ news
  hρ : ∀ id, Loc.r id ∉ news → m1.ρ id = m.ρ id
  hβ : ∀ b, Loc.b b ∉ news → m1.β b = m.β b
  hpl : ∀ z ∈ bx, pls z.i = plOf m z
  hrd : Reads s' rds

theorem pR_inj {i i' j j' : Nat} (h : pR i + j = pR i' + j') (hj : j < 100) (hj' : j' < 100) : i = i' ∧ j = j' := by
  simp only [pR] at h; omega

theorem keptEnt {L : Nat} {w' : World} {φ' φ1 : Col} {pls : Nat → Plc} {rv : List Value} {news : List Loc} {s1 : St} {m1 : Mem} {s s' : St} {n : Nat} {w0 : World} {φ0 : Gh} {a : Act} {m : Mem} (hr : Rel n w0 φ0 s' a m)
    {ps0 : List PK} {args : List Value} {hd : List Hd} {bx : List Bx} {rds : Rds} (E : KeepEnv L w' φ' φ1 pls rv news m1 s s' m ps0 args hd bx rds) :
    ∀ {ps : List PK} {i : Nat} {y : Ts (kk ps)} {vs : List Value} {W : St} {N : List Loc}, KeptC w' φ' pls i ps y vs → keptWr s L hd bx i ps y = some (W, N) → (∀ idx p, ps[idx]? = some p → ps0[i + idx]? = some p) → (∀ idx v, vs[idx]? = some v → args[i + idx]? = some v) →
      i + ps.length ≤ 16 → (∀ f : K → Bool, True) → (kkAll K.noRs ps = true ∨ Keeps w' w' φ' φ1) → Roots w' φ' φ1 (bkPs L bx i ps) → (∀ l ∈ N, l ∈ news) →
      (∀ l lv, (l, some lv) ∈ W → EntW s' m m1 news l lv) ∧ (Ext s' m s1 m1 (Live s') → ∀ l lv, (l, some lv) ∈ W → EntS s1 m1 l lv) ∧ (∀ p ∈ W, p.2.isSome = true) ∧ (∀ l ∈ N, inW W l = true) ∧
        (∀ idx k, ps[idx]? = some (.ptr k) → ∃ z, findX bx (i + idx) = some z ∧ inW W (.b z.b) = true)
  | [], i, y, vs, W, N, hk, h, _, _, _, _, _, _, _ => by
    simp only [keptWr] at h; injection h with h; injection h with h1 h2; subst h1; subst h2
    exact ⟨fun l lv hm => (nomatch hm), fun _ l lv hm => (nomatch hm), fun p hp => (nomatch hp), fun l hl => (nomatch hl), fun idx k h => by simp at h⟩
  | .val g k false :: ps, i, y, vs, W, N, hk, h, hps, hvs, hi, _, hb, hroots, hN => by
    obtain ⟨v, r, rfl, hk⟩ := hk
    simp only [keptWr] at h
    obtain ⟨f1, f2, f3, f4, f5⟩ := keptEnt hr E hk h (fun idx p hp => by
      have := hps (idx + 1) p (by simpa using hp)
      rwa [show i + (idx + 1) = i + 1 + idx by omega] at this) (fun idx v hv => by
      have := hvs (idx + 1) v (by simpa using hv)
      rwa [show i + (idx + 1) = i + 1 + idx by omega] at this) (by simp at hi; omega) (fun _ => trivial) hb hroots hN
    refine ⟨f1, f2, f3, f4, fun idx k' h => ?_⟩
    cases idx with
    | zero => simp at h
    | succ idx =>
      obtain ⟨z, h1, h2⟩ := f5 idx k' (by simpa using h)
      exact ⟨z, by rwa [show i + (idx + 1) = i + 1 + idx by omega], h2⟩
  | .val g k true :: ps, i, y, vs, W, N, hk, h, hps, hvs, hi, _, hb, hroots, hN => by
    obtain ⟨cs, r, rfl, hl, hg, hk⟩ := hk
    simp only [keptWr] at h
    split at h
    · rename_i W' N' hW'
      injection h with h; injection h with h1 h2; subst h1; subst h2
      obtain ⟨f1, f2, f3, f4, f5⟩ := keptEnt hr E hk hW' (fun idx p hp => by
        have := hps (idx + 1) p (by simpa using hp)
        rwa [show i + (idx + 1) = i + 1 + idx by omega] at this) (fun idx v hv => by
        have := hvs (idx + 1) v (by simpa using hv)
        rwa [show i + (idx + 1) = i + 1 + idx by omega] at this) (by simp at hi; omega) (fun _ => trivial) (hb.imp (fun h => by simp only [kkAll, Bool.and_eq_true] at h; exact h.2) id) hroots hN
      have hp0 := hps 0 _ rfl
      have hv0 := hvs 0 _ rfl
      rw [Nat.add_zero] at hp0 hv0
      have hbk : Back k w' φ' φ1 := hb.imp (fun h => by simp only [kkAll, Bool.and_eq_true] at h; exact h.1) id
      have hsz0 : k.sz ≤ 100 := Nat.le_of_ble_eq_true (E.sz _ (List.mem_of_getElem? hp0))
      have key : ∀ l lv, (l, some lv) ∈ keptRows hd (lvRows (pR i) k y.1) → EntW s' m m1 news l lv ∧ EntS s1 m1 l lv := by
        intro l lv hm
        obtain ⟨c, row, h, g1, g2, g3, rfl, rfl⟩ := keptRows_mem hm
        obtain ⟨j, v, e1, e2, e3, e4, e5⟩ := lvRows_ok hl c row g1
        obtain ⟨idx, j', p, hf⟩ := E.hdf h g2
        have hpm : szOk p.k = true := E.sz p (List.mem_of_getElem? hf.pos)
        have hpsz : p.k.sz ≤ 100 := Nat.le_of_ble_eq_true hpm
        have hlt := hf.lt
        have hrr := hf.r
        rw [Nat.zero_add, g3, e1] at hrr
        obtain ⟨ei, ej⟩ := pR_inj hrr (by omega) (by omega)
        subst ei; subst ej
        have hpp := hf.pos
        rw [hp0] at hpp
        injection hpp with hpp
        obtain ⟨hkp, hval⟩ := hf.val g k true hpp.symm
        obtain ⟨cs0, c1, c2, c3, c4⟩ := hval _ hv0
        have : cs = cs0 := toV_inj c1 hl.len c2 c3
        subst this
        rw [e3] at c4
        injection c4 with c4
        subst c4
        have hlk := hf.lk
        rw [← hpp] at hlk
        simp only [PK.k] at hlk
        rw [e4] at hlk
        injection hlk with hlk
        injection hlk with hk1 hk2
        have hρ := E.hρ h.id (E.hnew h g2)
        have hold := hr.rw h.id h.row hf.st
        refine ⟨.inr ⟨h.row, hf.st, hρ, by rw [hk2], own_len hold e5, Nat.lt_succ_self _⟩, ?_⟩
        show OwL (Ow row.k m1.w m1.φ) row.e row.k.sz m1.w m1.φ [2 * h.id] row.xs (m1.ρ h.id)
        rw [hρ, E.new.hw, E.new.hφ]
        have hrt := E.rHd _ (bkHd_mem g2 hkp) []
        rw [g3, e1] at hrt
        refine e5.back ?_ hrt
        refine hbk.imp (fun hn => ?_) id
        have key2 : ∀ {k : K} {j e : Nat} {k' : K}, k.noRs = true → leafK k j = some (e, k') → (K.sl e k').noRs = true := by
          intro k
          induction k with
          | int _ => intro j e k' _ h; simp [leafK] at h
          | bool => intro j e k' _ h; simp [leafK] at h
          | str => intro j e k' _ h; simp [leafK] at h
          | rs _ _ _ => intro j e k' _ h; simp [leafK] at h
          | sl e0 k0 _ =>
            intro j e k' hn h
            cases j with
            | zero => simp only [leafK] at h; injection h with h; injection h with h1 h2; subst h1; subst h2; exact hn
            | succ j => simp [leafK] at h
          | pair a b iha ihb =>
            intro j e k' hn h
            simp only [K.noRs, Bool.and_eq_true] at hn
            simp only [leafK] at h
            split at h
            · exact iha hn.1 h
            · exact ihb hn.2 h
        exact key2 hn e4
      refine ⟨fun l lv hm => (List.mem_append.1 hm).elim (fun h => (key l lv h).1) (f1 l lv), fun hX l lv hm => (List.mem_append.1 hm).elim (fun h => (key l lv h).2) (f2 hX l lv), fun p hp => ?_, fun l hl => ?_, fun idx k' h => ?_⟩
      · rcases List.mem_append.1 hp with hp | hp
        · obtain ⟨l, v⟩ := p
          have : ∀ rows : List (Nat × Row), (l, v) ∈ keptRows hd rows → v.isSome = true := by
            intro rows
            induction rows with
            | nil => intro h; cases h
            | cons q rows ih =>
              intro h
              simp only [keptRows] at h
              split at h
              · rcases List.mem_cons.1 h with e | h
                · injection e with _ e; subst e; rfl
                · exact ih h
              · exact ih h
          exact this _ hp
        · exact f3 p hp
      · have := f4 l hl
        simp only [inW, List.any_append, Bool.or_eq_true] at this ⊢
        exact .inr this
      · cases idx with
        | zero => simp at h
        | succ idx =>
          obtain ⟨z, h1, h2⟩ := f5 idx k' (by simpa using h)
          refine ⟨z, by rwa [show i + (idx + 1) = i + 1 + idx by omega], ?_⟩
          simp only [inW, List.any_append, Bool.or_eq_true] at h2 ⊢
          exact .inr h2
    · cases h
  | .ptr k :: ps, i, y, vs, W, N, hk, h, hps, hvs, hi, _, hb, hroots, hN => by
    obtain ⟨cs, v, r, rfl, hvar, hl, hk⟩ := hk
    simp only [keptWr] at h
    split at h
    · rename_i z hz
      split at h
      · rename_i c W' N' hc hW'
        injection h with h; injection h with h1 h2; subst h1; subst h2
        obtain ⟨hzm, hzi⟩ := findX_ok hz
        simp only [bkPs, hz] at hroots
        have hroots2 := hroots.tail
        obtain ⟨f1, f2, f3, f4, f5⟩ := keptEnt hr E hk hW' (fun idx p hp => by
          have := hps (idx + 1) p (by simpa using hp)
          rwa [show i + (idx + 1) = i + 1 + idx by omega] at this) (fun idx v hv => by
          have := hvs (idx + 1) v (by simpa using hv)
          rwa [show i + (idx + 1) = i + 1 + idx by omega] at this) (by simp at hi; omega) (fun _ => trivial) (hb.imp (fun h => by simp only [kkAll, Bool.and_eq_true] at h; exact h.2) id) hroots2.right (fun l hl => hN l (List.mem_append_right _ hl))
        have hp0 := hps 0 _ rfl
        rw [Nat.add_zero] at hp0
        have hbk : Back k w' φ' φ1 := hb.imp (fun h => by simp only [kkAll, Bool.and_eq_true] at h; exact h.1) id
        have hsz0 : k.sz ≤ 100 := Nat.le_of_ble_eq_true (E.sz _ (List.mem_of_getElem? hp0))
        obtain ⟨idx, k', c', hf⟩ := E.bxf z hzm
        have hidx : idx = i := by have := hf.i; omega
        subst hidx
        have hpp := hf.pos
        rw [hp0] at hpp
        injection hpp with hpp
        injection hpp with hpp
        subst hpp
        have hcc := hf.get
        rw [hc] at hcc
        injection hcc with hcc
        subst hcc
        have hzsz := hf.sz
        have hgb := E.hrd _ hf.rd
        obtain ⟨cs0, hcs0, hone, hcol, hg⟩ := hr.bx z.b c hgb
        have hfit := hf.fit
        rw [hcs0.len] at hfit
        have hpe := E.hpl z hzm
        rw [plOf_eq hg hfit, hzi] at hpe
        obtain ⟨hheap, hcol'⟩ := hvar
        rw [hpe] at hheap hcol'
        simp only at hheap hcol'
        have hβ := E.hβ z.b (E.bnew z hzm)
        have hca : ((cellsAt w' (pls idx).g).drop (pls idx).pre.length) = cs ++ (cs0.drop (z.off + z.sz) ++ (m.β z.b).post) := by
          rw [hpe]
          simp only [cellsAt, hheap]
          rw [List.append_assoc (_ ++ _), List.drop_left]
        obtain ⟨e1, e2⟩ := back_rows (s1 := s1) (nb := np L idx) hl hbk hroots2.left E.new.hw E.new.hφ fun cc v hc' hlk => by
          have hlt := (List.getElem?_eq_some_iff.1 hc').1
          have hlen := hl.len
          have hmem : Loc.r (np L idx + cc) ∈ news := by
            obtain ⟨row, hrow⟩ := lvRows_mem (k := k) (nb := np L idx) (x := y.1) hlk
            exact hN _ (List.mem_append_left _ (List.mem_map.2 ⟨_, hrow, rfl⟩))
          rw [E.new.prow idx cc (by simp at hi; omega) (by omega) hmem, hca, List.getD_eq_getElem?_getD, List.getElem?_append_left hlt, hc']; rfl
        have hbox : Ext s' m s1 m1 (Live s') → BxC s1 m1 (m1.β z.b) z.b (c.take z.off ++ leaves k y.1 Lf.own (np L idx) ++ c.drop (z.off + k.sz)) := by
          intro hX
          have hext : All2 (LfC s1 m1) c cs0 := All2.imp (fun l hl v hv => hv.ext (hX.sub fun q hq => ⟨.b z.b, .b c, hgb, List.mem_flatMap.2 ⟨l, hl, hq⟩⟩)) hcs0
          rw [hβ]
          refine ⟨cs0.take z.off ++ cs ++ cs0.drop (z.off + k.sz), ((hext.take _).app e2).app (hext.drop _), fun u hu => ?_, ?_, ?_⟩
          · rcases List.mem_append.1 hu with hu | hu
            · rcases List.mem_append.1 hu with hu | hu
              · exact hone u (List.mem_of_mem_take hu)
              · exact hl.one u hu
            · exact hone u (List.mem_of_mem_drop hu)
          · rw [E.new.hφ]
            have hlt : (m.β z.b).g < w'.heap.size := (Array.getElem?_eq_some_iff.1 hheap).1
            exact (hroots _ List.mem_cons_self [] (m.β z.b).g [] hcol' hlt).2
          · rw [E.new.hw, hheap, hzsz]
            congr 2
            simp only [List.append_assoc]
        refine ⟨fun l lv hm => ?_, fun hX l lv hm => ?_, fun p hp => ?_, fun l hl => ?_, fun idx' k' h => ?_⟩
        · rcases List.mem_cons.1 hm with e | hm
          · injection e with e1 e2; injection e2 with e2; subst e1; subst e2
            exact .inr ⟨c, hgb, hβ⟩
          · rcases List.mem_append.1 hm with hm | hm
            · obtain ⟨cc, row, rfl, rfl, hm2⟩ := rowsW_mem hm
              exact .inl (hN _ (List.mem_append_left _ (List.mem_map.2 ⟨(cc, row), hm2, rfl⟩)))
            · exact f1 l lv hm
        · rcases List.mem_cons.1 hm with e | hm
          · injection e with e1' e2'; injection e2' with e2'; subst e1'; subst e2'
            exact hbox hX
          · exact (List.mem_append.1 hm).elim (e1 l lv) (f2 hX l lv)
        · rcases List.mem_cons.1 hp with e | hp
          · subst e; rfl
          · rcases List.mem_append.1 hp with hp | hp
            · obtain ⟨q, _, rfl⟩ := List.mem_map.1 hp; rfl
            · exact f3 p hp
        · simp only [inW, List.any_cons, List.any_append, Bool.or_eq_true]
          rcases List.mem_append.1 hl with hl | hl
          · obtain ⟨q, hq, rfl⟩ := List.mem_map.1 hl
            refine .inr (.inl (List.any_eq_true.2 ⟨_, List.mem_map.2 ⟨q, hq, rfl⟩, Loc.eqb_iff.2 rfl⟩))
          · exact .inr (.inr (f4 l hl))
        · cases idx' with
          | zero => exact ⟨z, hz, by simp only [inW, List.any_cons, Bool.or_eq_true]; exact .inl (Loc.eqb_iff.2 rfl)⟩
          | succ idx' =>
            obtain ⟨z', h1, h2⟩ := f5 idx' k' (by simpa using h)
            refine ⟨z', by rwa [show idx + (idx' + 1) = idx + 1 + idx' by omega], ?_⟩
            simp only [inW, List.any_cons, List.any_append, Bool.or_eq_true] at h2 ⊢
            exact .inr (.inr h2)
      · cases h
    · cases h

end Go.Proofs.Ytlgbhpphfimdbaa.Ev
