/- Where paths meet: the state behind it holds. -/
import Derived.Test.YtlgbhpphfimdbaaEv21
namespace Go.Proofs.Ytlgbhpphfimdbaa.Ev
set_option linter.unusedVariables false
set_option linter.unusedSimpArgs false

/-- What a filled state's places hold. -/
def FillOk (s : St) (m : Mem) (s1 : St) (m1 : Mem) (a : Act) (μ : Mp) : It → LV → Prop
  | .t d _ _, lv => ∃ v, lv = .t v ∧ (∀ u, s.get (.t d) = some (.t u) → AVC s m u (a.tmps.getD d undef) → AVC s1 m1 v (a.tmps.getD d undef)) ∧ ∃ u, s.get (.t d) = some (.t u)
  | .b d _, lv => ∃ c c', lv = .b c ∧ s.get (.b d) = some (.b c') ∧ ∀ vs, All2 (LfC s m) c' vs → All2 (LfC s1 m1) c vs
  | .r c e k, lv => ∃ xs : List k.T, lv = .r ⟨e, k, xs, 0⟩ ∧ OwL (Ow k m1.w m1.φ) e k.sz m1.w m1.φ [2 * c] xs (m1.ρ c) ∧
      ∀ a0, lookM μ c = some (some a0) → ∃ row, s.get (.r a0) = some (.r row) ∧ row.k.sz = k.sz ∧ row.xs.length = xs.length

/-- The rows' side: those that are named move to their new colours. -/
structure JR (s : St) (m : Mem) (m1 : Mem) (μ : Mp) : Prop where
  row : ∀ c a row, lookM μ c = some (some a) → s.get (.r a) = some (.r row) → OwL (Ow row.k m1.w m1.φ) row.e row.k.sz m1.w m1.φ [2 * c] row.xs (m.ρ a)

theorem len_of_all2 {α β : Type} {R : α → β → Prop} {as : List α} {bs : List β} (h : All2 R as bs) : as.length = bs.length := h.len

theorem pIts_ok {s : St} : ∀ {its : List It} {μ μ' : Mp} {x : ShT its}, pIts s its μ = some (x, μ') → SubM μ μ' ∧ ∀ m s1 m1 a, JE s m s1 m1 μ' → JR s m m1 μ' → 
      All2 (FillOk s m s1 m1 a μ') its ((fIts its x).map fun p => p.2.getD (.x 0)) ∧ ∀ p ∈ fIts its x, p.2.isSome = true
  | [], μ, μ', x, h => by
    simp only [pIts] at h; injection h with h; injection h with h1 h2; subst h2
    exact ⟨SubM.refl _, fun m s1 m1 a _ _ => ⟨trivial, fun p hp => nomatch hp⟩⟩
  | .t d agg sps :: its, μ, μ', x, h => by
    simp only [pIts] at h
    split at h
    · rename_i l hg
      obtain ⟨μ1, h1, h2, h3⟩ := pLeaves_ok h
      obtain ⟨h4, h5⟩ := pIts_ok h1
      refine ⟨h2.trans h4, fun m s1 m1 a hj hr => ?_⟩
      obtain ⟨h6, h7⟩ := h5 m s1 m1 a hj hr
      refine ⟨⟨⟨_, rfl, fun u hu hv => ?_, ⟨_, St.getT_some.1 hg⟩⟩, h6⟩, fun p hp => ?_⟩
      · rw [St.getT_some.1 hg] at hu; injection hu with hu; injection hu with hu; subst hu
        have hl := h3 m s1 m1 μ' hj h4 [a.tmps.getD d undef] ⟨hv, trivial⟩
        cases e : (fLeaves sps x).1 with
        | nil => rw [e] at hl; exact hl.elim
        | cons l' ls' =>
          rw [e] at hl
          cases ls' with
          | cons _ _ => exact hl.2.elim
          | nil => exact hl.1
      · rcases List.mem_cons.1 hp with rfl | hp
        · rfl
        · exact h7 p hp
    · rename_i ls hg
      obtain ⟨μ1, h1, h2, h3⟩ := pLeaves_ok h
      obtain ⟨h4, h5⟩ := pIts_ok h1
      refine ⟨h2.trans h4, fun m s1 m1 a hj hr => ?_⟩
      obtain ⟨h6, h7⟩ := h5 m s1 m1 a hj hr
      refine ⟨⟨⟨_, rfl, fun u hu hv => ?_, ⟨_, St.getT_some.1 hg⟩⟩, h6⟩, fun p hp => ?_⟩
      · rw [St.getT_some.1 hg] at hu; injection hu with hu; injection hu with hu; subst hu
        obtain ⟨cs, hcs, hv⟩ := hv
        exact ⟨cs, hcs, h3 m s1 m1 μ' hj h4 cs hv⟩
      · rcases List.mem_cons.1 hp with rfl | hp
        · rfl
        · exact h7 p hp
    · cases h
  | .b d sps :: its, μ, μ', x, h => by
    simp only [pIts] at h
    split at h
    · rename_i ls hg
      obtain ⟨μ1, h1, h2, h3⟩ := pLeaves_ok h
      obtain ⟨h4, h5⟩ := pIts_ok h1
      refine ⟨h2.trans h4, fun m s1 m1 a hj hr => ?_⟩
      obtain ⟨h6, h7⟩ := h5 m s1 m1 a hj hr
      refine ⟨⟨⟨_, ls, rfl, St.getB_some.1 hg, fun vs hv => h3 m s1 m1 μ' hj h4 vs hv⟩, h6⟩, fun p hp => ?_⟩
      rcases List.mem_cons.1 hp with rfl | hp
      · rfl
      · exact h7 p hp
    · cases h
  | .r c e k :: its, μ, μ', x, h => by
    simp only [pIts] at h
    split at h
    · rename_i a0 hm
      split at h
      · rename_i row hg
        split at h
        · rename_i xs hb hcast
          obtain ⟨y, hy, rfl⟩ := mapFst_some h
          obtain ⟨h4, h5⟩ := pIts_ok hy
          refine ⟨h4, fun m s1 m1 a hj hr => ?_⟩
          obtain ⟨h6, h7⟩ := h5 m s1 m1 a hj hr
          have hb := Nat.eq_of_beq_eq_true hb
          obtain ⟨ek, rfl⟩ := castL_some hcast
          refine ⟨⟨⟨_, rfl, ?_, fun a1 ha1 => ?_⟩, h6⟩, fun p hp => ?_⟩
          · have h8 := hr.row c a0 row (h4 _ _ hm) (St.getR_some.1 hg)
            rw [hj.rho c _ (h4 _ _ hm)]
            subst hb; subst ek
            exact h8
          · rw [h4 _ _ hm] at ha1
            injection ha1 with ha1; injection ha1 with ha1; subst ha1
            subst ek
            exact ⟨row, St.getR_some.1 hg, rfl, rfl⟩
          · rcases List.mem_cons.1 hp with rfl | hp
            · rfl
            · exact h7 p hp
        · cases h
      · cases h
    · rename_i hm
      obtain ⟨y, hy, rfl⟩ := mapFst_some h
      obtain ⟨h4, h5⟩ := pIts_ok hy
      refine ⟨h4, fun m s1 m1 a hj hr => ?_⟩
      obtain ⟨h6, h7⟩ := h5 m s1 m1 a hj hr
      refine ⟨⟨⟨_, rfl, ?_, fun a1 ha1 => by rw [h4 _ _ hm] at ha1; injection ha1 with ha1; cases ha1⟩, h6⟩, fun p hp => ?_⟩
      · rw [hj.rho c _ (h4 _ _ hm)]
        exact ⟨[], owns_nil _ _ _ _, fun g hg => by simp [Value.ownBlock] at hg, fun i h => by simp at h⟩
      · rcases List.mem_cons.1 hp with rfl | hp
        · rfl
        · exact h7 p hp
    · cases h

/-- Each place that is filled holds what it should. -/
theorem fill_get {s : St} {m : Mem} {s1 : St} {m1 : Mem} {a : Act} {μ : Mp} : ∀ {its : List It} {x : ShT its} {l : Loc} {lv : LV} {rest : St}, All2 (FillOk s m s1 m1 a μ) its ((fIts its x).map fun p => p.2.getD (.x 0)) → (∀ p ∈ fIts its x, p.2.isSome = true) →
    St.get (fIts its x ++ rest) l = some lv → (∃ it ∈ its, it.loc = l ∧ FillOk s m s1 m1 a μ it lv) ∨ ((∀ it ∈ its, it.loc ≠ l) ∧ St.get rest l = some lv) := by
  intro its x
  have hlocs := fIts_locs its x
  generalize fIts its x = W at *
  clear x
  induction its generalizing W with
  | nil =>
    intro l lv rest _ _ hg
    have : W = [] := by simpa using hlocs
    subst this
    exact .inr ⟨fun it hi => (nomatch hi), hg⟩
  | cons it its ih =>
    intro l lv rest hA hS hg
    cases W with
    | nil => simp at hlocs
    | cons w W =>
      simp only [List.map_cons] at hlocs hA
      injection hlocs with hl1 hl2
      obtain ⟨wl, wv⟩ := w
      simp only at hl1
      by_cases e : wl = l
      · subst e
        rw [List.cons_append, St.get_cons_same] at hg
        have := hS _ List.mem_cons_self
        simp only [hg, Option.getD_some] at hA
        exact .inl ⟨it, List.mem_cons_self, hl1.symm, hA.1⟩
      · rw [List.cons_append, St.get_cons_ne e] at hg
        rcases ih W hl2 hA.2 (fun p hp => hS p (List.mem_cons_of_mem _ hp)) hg with ⟨it', h1, h2⟩ | ⟨h1, h2⟩
        · exact .inl ⟨it', List.mem_cons_of_mem _ h1, h2⟩
        · refine .inr ⟨fun it' hi => ?_, h2⟩
          rcases List.mem_cons.1 hi with rfl | hi
          · exact fun h => e (hl1.trans h)
          · exact h1 it' hi

def tombs (dead : List Loc) : St := dead.map fun l => (l, none)

theorem tombs_get {dead : List Loc} {rest : St} {l : Loc} {lv : LV} (h : St.get (tombs dead ++ rest) l = some lv) : l ∉ dead ∧ St.get rest l = some lv := by
  induction dead with
  | nil => exact ⟨by simp, h⟩
  | cons d dead ih =>
    simp only [tombs, List.map_cons, List.cons_append] at h
    by_cases e : d = l
    · subst e; rw [St.get_cons_same] at h; cases h
    · rw [St.get_cons_ne e] at h
      obtain ⟨h1, h2⟩ := ih h
      exact ⟨fun hm => (List.mem_cons.1 hm).elim (fun h => e h.symm) h1, h2⟩

def locB (W : List Loc) (l : Loc) : Bool := W.any (Loc.eqb · l)
theorem locB_ok {W : List Loc} {l : Loc} (h : locB W l = true) : l ∈ W := by
  obtain ⟨w, hw, e⟩ := List.any_eq_true.1 h
  rw [← Loc.eqb_iff.1 e]; exact hw

def actM (μ : Mp) : List Nat := μ.filterMap (·.2)

/-- The leaves of what is told. -/
def AV.lfs : AV → List Lf
  | .one l => [l]
  | .agg ls => ls
  | .tup ps => ps.flatMap (·.2)
  | .und => []
def LV.lfs : LV → List Lf
  | .t v => v.lfs
  | .b c => c
  | _ => []

theorem lfs_men {lv : LV} {l : Lf} (h : l ∈ lv.lfs) {q : Loc} (hq : q ∈ l.men) : q ∈ lv.men := by
  cases lv with
  | t v =>
    cases v with
    | one l' => simp only [LV.lfs, AV.lfs, List.mem_singleton] at h; subst h; exact hq
    | agg ls => exact List.mem_flatMap.2 ⟨l, h, hq⟩
    | tup ps =>
      obtain ⟨p, hp, hl⟩ := List.mem_flatMap.1 h
      exact List.mem_flatMap.2 ⟨p, hp, List.mem_flatMap.2 ⟨l, hl, hq⟩⟩
    | und => cases h
  | b c => exact List.mem_flatMap.2 ⟨l, h, hq⟩
  | r row => cases h
  | x i => cases h

theorem AVC.lfs {s : St} {m : Mem} {s1 : St} {m1 : Mem} {v : AV} {x : Value} (h : AVC s m v x) (hl : ∀ l ∈ v.lfs, ∀ y, LfC s m l y → LfC s1 m1 l y) : AVC s1 m1 v x := by
  cases v with
  | one l => exact hl l (by simp [AV.lfs]) x h
  | agg ls =>
    obtain ⟨cs, rfl, h⟩ := h
    exact ⟨cs, rfl, All2.imp (fun l hm b hb => hl l hm b hb) h⟩
  | tup ps =>
    obtain ⟨vs, rfl, h⟩ := h
    refine ⟨vs, rfl, All2.imp (fun p hp b hb => ?_) h⟩
    have hsub : ∀ l ∈ p.2, ∀ y, LfC s m l y → LfC s1 m1 l y := fun l hm => hl l (List.mem_flatMap.2 ⟨p, hp, hm⟩)
    obtain ⟨f, ls⟩ := p
    cases f with
    | true => obtain ⟨cs, rfl, h⟩ := hb; exact ⟨cs, rfl, All2.imp (fun l hm b hb => hsub l hm b hb) h⟩
    | false => obtain ⟨l, rfl, h⟩ := hb; exact ⟨l, rfl, hsub l (by simp) _ h⟩
  | und => exact h

def subOf (id : Nat) : Lf → Bool
  | .sub i _ _ _ => Nat.beq i id
  | _ => false

/-- No one tells of what lies in the row's elements. -/
def noSub (s : St) (id : Nat) : Bool := s.all fun p => match p.2 with
  | some lv => lv.lfs.all fun l => !(subOf id l)
  | none => true

theorem noSub_ok {s : St} {id : Nat} (h : noSub s id = true) {l0 : Loc} {lv : LV} (hg : s.get l0 = some lv) {q off ver : Nat} (hm : Lf.sub id q off ver ∈ lv.lfs) : False := by
  have h1 := List.all_eq_true.1 h _ (get_mem hg)
  have h2 := List.all_eq_true.1 h1 _ hm
  simp [subOf] at h2

def sameB (p : Nat × Option Nat) : Bool := match p.2 with
  | some a => Nat.beq a p.1
  | none => false

theorem sameB_ok {c : Nat} {o : Option Nat} (h : sameB (c, o) = true) : o = some c := by
  unfold sameB at h
  split at h
  · rename_i a e
    simp only at e
    rw [e, Nat.eq_of_beq_eq_true h]
  · cases h

/-- Rows of the map: the old names are apart, each is written over; the new names are known to nobody. -/
def mapOk (W : List Loc) (s : St) (μ : Mp) : Bool :=
  nodupB (actM μ) && (actM μ).all (fun a => locB W (.r a)) && μ.all fun p => (match sameB p with
    | true => noSub s p.1
    | false => fresh s (.r p.1) && (Nat.blt p.1 1000 || Nat.ble 4096 p.1)) && locB W (.r p.1)

def joinS (its : List It) (dead : List Loc) (s s' : St) : Option (ShT its) :=
  match pIts s' its [] with
  | some (x, μ) => match (s'.take (s'.length - s.length)).all (fun p => locB (its.map It.loc ++ dead) p.1), mapOk (its.map It.loc ++ dead) s μ with
    | true, true => some x
    | _, _ => none
  | none => none

def fillS (its : List It) (dead : List Loc) (s : St) (x : ShT its) : St := fIts its x ++ (tombs dead ++ s)

theorem fillS_suffix (its : List It) (dead : List Loc) (s : St) (x : ShT its) : s <:+ fillS its dead s x := by
  unfold fillS; exact (List.suffix_append _ _).trans (List.suffix_append _ _)

def tgM (μ : Mp) : Tg := μ.filterMap fun p => match p.2 with
  | some a => some (a, fun q => some (2 * p.1 :: q))
  | none => none

theorem lookM_mem : ∀ {μ : Mp} {c : Nat} {o : Option Nat}, lookM μ c = some o → (c, o) ∈ μ
  | [], _, _, h => by cases h
  | (c0, o0) :: μ, c, o, h => by
    simp only [lookM] at h
    split at h
    · rename_i hb
      injection h with h; subst h
      rw [Nat.eq_of_beq_eq_true hb]; exact List.mem_cons_self
    · exact List.mem_cons_of_mem _ (lookM_mem h)

theorem nodupB_nodup {l : List Nat} (h : nodupB l = true) : l.Nodup := by
  induction l with
  | nil => exact List.nodup_nil
  | cons a l ih =>
    obtain ⟨h1, h2⟩ := nodupB_cons h
    exact List.nodup_cons.2 ⟨h1, ih h2⟩

theorem tgM_look : ∀ {μ : Mp}, nodupB (actM μ) = true → ∀ {c a : Nat}, (c, some a) ∈ μ → lookR (tgM μ) (2 * a) = some (fun q => some (2 * c :: q))
  | [], _, _, _, h => nomatch h
  | (c0, o0) :: μ, hn, c, a, h => by
    cases o0 with
    | none =>
      have hn' : nodupB (actM μ) = true := by simpa [actM] using hn
      rcases List.mem_cons.1 h with e | h
      · injection e with _ e; cases e
      · have := tgM_look hn' h
        simpa [tgM] using this
    | some a0 =>
      have hn' : nodupB (a0 :: actM μ) = true := by simpa [actM] using hn
      obtain ⟨hni, hn'⟩ := nodupB_cons hn'
      rcases List.mem_cons.1 h with e | h
      · injection e with e1 e2; injection e2 with e2; subst e1; subst e2
        simp [tgM, lookR]
      · have hne : ¬ 2 * a0 = 2 * a := by
          intro e
          refine hni (List.mem_filterMap.2 ⟨(c, some a), h, ?_⟩)
          simp; omega
        have := tgM_look hn' h
        simp only [tgM] at this
        simp only [tgM, List.filterMap_cons, lookR, if_neg hne]
        exact this

theorem tgM_none {μ : Mp} {r : Nat} (h : ∀ a ∈ actM μ, 2 * a ≠ r) : lookR (tgM μ) r = none := by
  refine lookR_none fun v hv => ?_
  obtain ⟨⟨c, o⟩, hm, e⟩ := List.mem_filterMap.1 hv
  cases o with
  | none => cases e
  | some a =>
    simp only at e; injection e with e; subst e
    exact h a (List.mem_filterMap.2 ⟨(c, some a), hm, rfl⟩)

theorem pLeaves_kk {R : Type} {s : St} {sps : List Sp} {ls : List Lf} {μ μ' : Mp} {kk : Mp → Option (R × Mp)} {x : LT sps R} (h : pLeaves s sps ls μ kk = some (x, μ')) :
    ∃ μ1 y, kk μ1 = some (y, μ') := let ⟨μ1, h1, _⟩ := pLeaves_ok h; ⟨μ1, _, h1⟩

theorem pIts_box {s : St} : ∀ {its : List It} {μ μ' : Mp} {x : ShT its}, pIts s its μ = some (x, μ') → ∀ d sps, It.b d sps ∈ its → ∃ c, s.get (.b d) = some (.b c)
  | .t d agg sps :: its, μ, μ', x, h, d', sps', hm => by
    have hm2 := (List.mem_cons.1 hm).resolve_left (by simp)
    simp only [pIts] at h
    split at h
    · obtain ⟨_, _, h1⟩ := pLeaves_kk h; exact pIts_box h1 d' sps' hm2
    · obtain ⟨_, _, h1⟩ := pLeaves_kk h; exact pIts_box h1 d' sps' hm2
    · cases h
  | .b d sps :: its, μ, μ', x, h, d', sps', hm => by
    simp only [pIts] at h
    split at h
    · rename_i ls hg
      rcases List.mem_cons.1 hm with e | hm
      · injection e with e _; subst e; exact ⟨ls, St.getB_some.1 hg⟩
      · obtain ⟨_, _, h1⟩ := pLeaves_kk h; exact pIts_box h1 d' sps' hm
    · cases h
  | .r c e k :: its, μ, μ', x, h, d', sps', hm => by
    have hm2 := (List.mem_cons.1 hm).resolve_left (by simp)
    simp only [pIts] at h
    split at h
    · split at h
      · split at h
        · obtain ⟨y, hy, _⟩ := mapFst_some h; exact pIts_box hy d' sps' hm2
        · cases h
      · cases h
    · obtain ⟨y, hy, _⟩ := mapFst_some h; exact pIts_box hy d' sps' hm2
    · cases h

theorem not_inW_fIts {its : List It} {x : ShT its} {l : Loc} (h : ∀ it ∈ its, it.loc ≠ l) : inW (fIts its x) l = false := by
  cases e : inW (fIts its x) l with
  | false => rfl
  | true =>
    obtain ⟨w, hw, rfl⟩ := inW_mem e
    have : w.1 ∈ its.map It.loc := by rw [← fIts_locs its x]; exact List.mem_map.2 ⟨w, hw, rfl⟩
    obtain ⟨it, hi, e⟩ := List.mem_map.1 this
    exact absurd e (h it hi)

/-- In a filled state a place is one of the pattern's, or it is as it was. -/
theorem fillS_get {its : List It} {dead : List Loc} {s : St} {x : ShT its} {l : Loc} {lv : LV} (h : St.get (fillS its dead s x) l = some lv) :
    (∃ it ∈ its, it.loc = l) ∨ (l ∉ its.map It.loc ++ dead ∧ s.get l = some lv) := by
  by_cases hl : ∃ it ∈ its, it.loc = l
  · exact .inl hl
  · have hl' : ∀ it ∈ its, it.loc ≠ l := fun it hi e => hl ⟨it, hi, e⟩
    unfold fillS at h
    rw [get_app (not_inW_fIts hl')] at h
    obtain ⟨h1, h2⟩ := tombs_get h
    refine .inr ⟨fun hm => ?_, h2⟩
    rcases List.mem_append.1 hm with hm | hm
    · obtain ⟨it, hi, e⟩ := List.mem_map.1 hm
      exact hl' it hi e
    · exact h1 hm

theorem joinS_ok {its : List It} {dead : List Loc} {s s' : St} {x : ShT its} (h : joinS its dead s s' = some x) (hs : s <:+ s') {n : Nat} {w0 : World} {φ0 : Gh} {a : Act} {m : Mem} (hr : Rel n w0 φ0 s' a m) :
    ∃ m1, m1.w = m.w ∧ Rel n w0 φ0 (fillS its dead s x) a m1 := by
  unfold joinS at h
  split at h
  · rename_i x' μ hp
    split at h
    · rename_i hW hM
      injection h with h; subst h
      obtain ⟨pre, rfl⟩ := hs
      rw [List.length_append, Nat.add_sub_cancel, List.take_left] at hW
      simp only [mapOk, Bool.and_eq_true] at hM
      obtain ⟨⟨hM1, hM2⟩, hM3⟩ := hM
      let m1 : Mem := ⟨m.w, recol (tgM μ) m.φ, rhoM μ m.ρ, m.β⟩
      refine ⟨m1, rfl, ?_⟩
      obtain ⟨_, hfill⟩ := pIts_ok hp
      have hbase : ∀ l, l ∉ its.map It.loc ++ dead → St.get (pre ++ s) l = s.get l := fun l hl => get_app (by
        cases e : inW pre l with
        | false => rfl
        | true =>
          obtain ⟨w, hw, rfl⟩ := inW_mem e
          exact absurd (locB_ok (List.all_eq_true.1 hW w hw)) hl)
      have hW2 : ∀ c o, lookM μ c = some o → Loc.r c ∈ its.map It.loc ++ dead := by
        intro c o hc
        have := List.all_eq_true.1 hM3 _ (lookM_mem hc)
        simp only [Bool.and_eq_true] at this
        exact locB_ok this.2
      have hnone : ∀ c o, lookM μ c = some o → (o = some c ∧ noSub s c = true) ∨ ((∀ l lv, s.get l = some lv → Loc.r c ∉ lv.men) ∧ (c < 1000 ∨ 4096 ≤ c)) := by
        intro c o hc
        have := List.all_eq_true.1 hM3 _ (lookM_mem hc)
        simp only [Bool.and_eq_true] at this
        have h1 := this.1
        split at h1
        · rename_i hs; exact .inl ⟨sameB_ok hs, h1⟩
        · simp only [Bool.and_eq_true, Bool.or_eq_true] at h1
          exact .inr ⟨fun l lv hg hm => fresh_live h1.1 ⟨l, lv, hg, hm⟩, h1.2.imp blt_iff.1 Nat.le_of_ble_eq_true⟩
      have hkeep : Keeps m.w m1.w m.φ m1.φ := recol_keeps _ _ _
      have hact : ∀ a, a ∈ actM μ → Loc.r a ∈ its.map It.loc ++ dead := fun a ha => locB_ok (List.all_eq_true.1 hM2 a ha)
      have hJE : JE (pre ++ s) m (fillS its dead s x') m1 μ := by
        refine ⟨hkeep, fun c o hc => ?_, fun b c hg => ?_⟩
        · show rhoM μ m.ρ c = _
          simp only [rhoM, hc]
          cases o <;> rfl
        · rcases fillS_get hg with ⟨it, hi, e⟩ | ⟨h1, h2⟩
          · cases it with
            | t d ag sps => cases e
            | r c' e' k' => cases e
            | b d sps =>
              injection e with e; subst e
              obtain ⟨c', hc'⟩ := pIts_box hp d sps hi
              exact ⟨c', hc', rfl⟩
          · exact ⟨c, by rw [hbase _ h1]; exact h2, rfl⟩
      have hJR : JR (pre ++ s) m m1 μ := ⟨fun c a0 row hc hg => by
        have hm := recol_moves (w := m.w) (φ := m.φ) (tg := tgM μ) (id := a0) (p := []) (p' := [2 * c]) (tgM_look hM1 (lookM_mem hc)) (fun q => rfl)
        exact (hr.rw a0 row hg).move hm hkeep⟩
      obtain ⟨hA, hS⟩ := hfill m (fillS its dead s x') m1 a hJE hJR
      have hmapped : ∀ c' e' k', It.r c' e' k' ∈ its → ∃ o, lookM μ c' = some o := by
        intro c' e' k' hmem
        have key : ∀ {its : List It} {μ0 μ' : Mp} {x : ShT its}, pIts (pre ++ s) its μ0 = some (x, μ') → It.r c' e' k' ∈ its → ∃ o, lookM μ' c' = some o := by
          intro its
          induction its with
          | nil => intro μ0 μ' x _ h; cases h
          | cons it its ih =>
            intro μ0 μ' x h hm
            cases it with
            | t d ag sps =>
              have hm2 := (List.mem_cons.1 hm).resolve_left (by simp)
              simp only [pIts] at h
              split at h
              · obtain ⟨_, _, h1⟩ := pLeaves_kk h; exact ih h1 hm2
              · obtain ⟨_, _, h1⟩ := pLeaves_kk h; exact ih h1 hm2
              · cases h
            | b d sps =>
              have hm2 := (List.mem_cons.1 hm).resolve_left (by simp)
              simp only [pIts] at h
              split at h
              · obtain ⟨_, _, h1⟩ := pLeaves_kk h; exact ih h1 hm2
              · cases h
            | r c2 e2 k2 =>
              have hsub := (pIts_ok h).1
              simp only [pIts] at h
              rcases List.mem_cons.1 hm with e | hm
              · injection e with e _; subst e
                split at h
                · rename_i hc; exact ⟨_, hsub _ _ hc⟩
                · rename_i hc; exact ⟨_, hsub _ _ hc⟩
                · cases h
              · split at h
                · split at h
                  · split at h
                    · obtain ⟨y, hy, _⟩ := mapFst_some h; exact ih hy hm
                    · cases h
                  · cases h
                · obtain ⟨y, hy, _⟩ := mapFst_some h; exact ih hy hm
                · cases h
        exact key hp hmem
      have hold : ∀ l lv, St.get (fillS its dead s x') l = some lv → (∃ it ∈ its, it.loc = l ∧ FillOk (pre ++ s) m (fillS its dead s x') m1 a μ it lv) ∨ (l ∉ its.map It.loc ++ dead ∧ s.get l = some lv ∧ St.get (pre ++ s) l = some lv) := by
        intro l lv hg
        rcases fill_get (rest := tombs dead ++ s) hA hS hg with h1 | ⟨h1, h2⟩
        · exact .inl h1
        · rcases fillS_get hg with ⟨it, hi, e⟩ | ⟨h3, h4⟩
          · exact absurd e (h1 it hi)
          · exact .inr ⟨h3, h4, by rw [hbase _ h3]; exact h4⟩
      -- values that nobody wrote
      have hL : ∀ l0 lv0, s.get l0 = some lv0 → ∀ l ∈ lv0.lfs, ∀ v, LfC (pre ++ s) m l v → LfC (fillS its dead s x') m1 l v := by
        intro l0 lv0 hg0 l hl v hv
        have hrow : ∀ id r', Loc.r id ∈ l.men → St.get (fillS its dead s x') (.r id) = some (.r r') → ∃ r, St.get (pre ++ s) (.r id) = some (.r r) ∧ m1.ρ id = m.ρ id ∧ r'.k.sz = r.k.sz ∧ r'.xs.length = r.xs.length ∧ (noSub s id = true ∨ r' = r) := by
          intro id r' hm hg
          rcases hold _ _ hg with ⟨it, hi, e, hf⟩ | ⟨h1, h2, h3⟩
          · cases it with
            | t d ag sps => cases e
            | b d sps => cases e
            | r c' e' k' =>
              injection e with e; subst e
              obtain ⟨o, ho⟩ := hmapped c' e' k' hi
              rcases hnone c' o ho with ⟨rfl, hns⟩ | ⟨hnm, _⟩
              · obtain ⟨xs, e2, _, hf2⟩ := hf
                injection e2 with e2; subst e2
                obtain ⟨row, g1, g2, g3⟩ := hf2 c' ho
                refine ⟨row, g1, ?_, g2.symm, g3.symm, .inl hns⟩
                show rhoM μ m.ρ c' = m.ρ c'
                simp only [rhoM, ho]
              · exact absurd (lfs_men hl hm) (hnm l0 lv0 hg0)
          · refine ⟨r', h3, ?_, rfl, rfl, .inr rfl⟩
            show rhoM μ m.ρ id = m.ρ id
            cases hc : lookM μ id with
            | none => simp only [rhoM, hc]
            | some o => exact absurd (hW2 id o hc) h1
        have hix : ∀ q i, St.get (fillS its dead s x') (.x q) = some (.x i) → St.get (pre ++ s) (.x q) = some (.x i) := by
          intro q i hg
          rcases fillS_get hg with ⟨it, hi, e⟩ | ⟨h1, h2⟩
          · cases it <;> cases e
          · rw [hbase _ h1]; exact h2
        cases l with
        | int k n => exact hv
        | bool b => exact hv
        | str x => exact hv
        | nil => exact hv
        | fn f => exact hv
        | anyb => exact hv
        | ro e k xs => exact Ro.keep (k := .rs e k) hv hkeep
        | own id =>
          refine ⟨hv.1, fun r' hr' => ?_⟩
          obtain ⟨r, g1, g2, _⟩ := hrow id r' (by simp [Lf.men]) hr'
          rw [g2]; exact hv.2 r g1
        | vw id lo hi =>
          refine ⟨hv.1, fun r' hr' => ?_⟩
          obtain ⟨r, g1, g2, g3, g4, _⟩ := hrow id r' (by simp [Lf.men]) hr'
          obtain ⟨h1, h2, h3⟩ := hv.2 r g1
          exact ⟨h1, g4 ▸ h2, by rw [g2, g3]; exact h3⟩
        | sub id q off ver =>
          refine ⟨hv.1, fun r' i hr' hi' => ?_⟩
          obtain ⟨r, g1, g2, g3, g4, g5⟩ := hrow id r' (by simp [Lf.men]) hr'
          rcases g5 with g5 | g5
          · exact (noSub_ok g5 hg0 hl).elim
          · subst g5
            rw [g2]
            exact hv.2 r' i g1 (hix q i hi')
        | ptr b off =>
          refine ⟨hv.1, fun c' hc' => ?_⟩
          obtain ⟨c, h1, h2⟩ := hJE.box b c' hc'
          rw [h2]; exact hv.2 c h1
        | ept id q off =>
          refine ⟨hv.1, fun r' i hr' hi' => ?_⟩
          obtain ⟨r, g1, g2, g3, g4, _⟩ := hrow id r' (by simp [Lf.men]) hr'
          obtain ⟨h1, h2, h3⟩ := hv.2 r i g1 (hix q i hi')
          exact ⟨h1, g4 ▸ h2, by rw [g2, g3]; exact h3⟩
        | rpt k y off =>
          exact LfC.ext hv ⟨hkeep, fun id r' h _ => by (simp [Lf.men] at h), fun b c' h _ => by (simp [Lf.men] at h), fun q i h _ => by (simp [Lf.men] at h)⟩
      refine ⟨hr.sz, hr.df, fun d v hg => ?_, fun id r hg => ?_, fun b c hg => ?_, hr.kp.trans hkeep hr.hs, hr.fo.trans (recol_fore _ _ _) hr.hs, hr.nn, fun id r g1 g2 hg => ?_, fun b c g1 g2 hg => let ⟨c', h1, h2⟩ := hJE.box b c hg; h2.trans (hr.gb b c' g1 g2 h1), hr.hs, hr.os, hr.tp, hr.ou⟩
      · rcases hold _ _ hg with ⟨it, hi, e, hf⟩ | ⟨h1, h2, h3⟩
        · cases it with
          | b d sps => cases e
          | r c e k => cases e
          | t d' ag sps =>
            injection e with e; subst e
            obtain ⟨v', e', hf, u, hu⟩ := hf
            injection e' with e'; subst e'
            exact hf u hu (hr.tm d' u hu)
        · exact (hr.tm d v h3).lfs (hL _ _ h2)
      · rcases hold _ _ hg with ⟨it, hi, e, hf⟩ | ⟨h1, h2, h3⟩
        · cases it with
          | b d sps => cases e
          | t d ag sps => cases e
          | r c e' k =>
            injection e with e; subst e
            obtain ⟨xs, e', hf, _⟩ := hf
            injection e' with e'; subst e'
            exact hf
        · have hni : id ∉ actM μ := fun hm => h1 (hact id hm)
          have hmv := recol_other (w := m.w) (φ := m.φ) (tg := tgM μ) (r := 2 * id) (tgM_none fun a0 ha e => hni (by rw [show id = a0 by omega]; exact ha)) []
          have hrw := (hr.rw id r h3).move hmv hkeep
          have hρ : rhoM μ m.ρ id = m.ρ id := by
            cases hc : lookM μ id with
            | none => simp only [rhoM, hc]
            | some o => exact absurd (hW2 id o hc) h1
          show OwL (Ow r.k m.w (recol (tgM μ) m.φ)) r.e r.k.sz m.w (recol (tgM μ) m.φ) [2 * id] r.xs (rhoM μ m.ρ id)
          rw [hρ]; exact hrw
      · have hcol : ∀ c0 cs, All2 (LfC (pre ++ s) m) c0 cs → BxC (pre ++ s) m (m.β b) b c0 → recol (tgM μ) m.φ (m.β b).g = some [2 * b + 1] := by
          intro c0 cs _ hb
          obtain ⟨cs', _, _, h5, h6⟩ := hb
          have hlt : (m.β b).g < m.w.heap.size := (Array.getElem?_eq_some_iff.1 h6).1
          exact (recol_other (w := m.w) (tg := tgM μ) (φ := m.φ) (r := 2 * b + 1) (tgM_none fun v _ => by omega) [] (m.β b).g [] h5 hlt).2
        rcases hold _ _ hg with ⟨it, hi, e, hf⟩ | ⟨h1, h2, h3⟩
        · cases it with
          | t d ag sps => cases e
          | r c e k => cases e
          | b d sps =>
            injection e with e; subst e
            obtain ⟨c1, c', e', hc', hf⟩ := hf
            injection e' with e'; subst e'
            have hb := hr.bx d c' hc'
            obtain ⟨cs, h4, h5, h6, h7⟩ := hb
            exact ⟨cs, hf cs h4, h5, hcol c' cs h4 ⟨cs, h4, h5, h6, h7⟩, h7⟩
        · have hb := hr.bx b c h3
          obtain ⟨cs, h4, h5, h6, h7⟩ := hb
          exact ⟨cs, All2.imp (fun l hl v hv => hL _ _ h2 l hl v hv) h4, h5, hcol c cs h4 ⟨cs, h4, h5, h6, h7⟩, h7⟩
      · cases hc : lookM μ id with
        | some o =>
          rcases hnone id o hc with ⟨rfl, _⟩ | ⟨_, h5⟩
          · show rhoM μ m.ρ id = _
            simp only [rhoM, hc]
            rcases hold _ _ hg with ⟨it, hi, e, hf⟩ | ⟨h1, h2, h3⟩
            · cases it with
              | b d sps => cases e
              | t d ag sps => cases e
              | r c e' k =>
                injection e with e; subst e
                obtain ⟨xs, e2, _, hf2⟩ := hf
                obtain ⟨row, g1', _⟩ := hf2 c hc
                exact hr.gr c row g1 g2 g1'
            · exact absurd (hW2 id _ hc) h1
          · omega
        | none =>
          have hid : rhoM μ m.ρ id = m.ρ id := by simp only [rhoM, hc]
          rcases hold _ _ hg with ⟨it, hi, e, hf⟩ | ⟨h1, h2, h3⟩
          · cases it with
            | b d sps => cases e
            | t d ag sps => cases e
            | r c e' k =>
              injection e with e; subst e
              obtain ⟨o, ho⟩ := hmapped c e' k hi
              rw [hc] at ho; cases ho
          · exact hid.trans (hr.gr id r g1 g2 h3)
    · cases h
  · cases h

end Go.Proofs.Ytlgbhpphfimdbaa.Ev
