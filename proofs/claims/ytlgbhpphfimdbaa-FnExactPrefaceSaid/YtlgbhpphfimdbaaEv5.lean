/- What a slice holds, however it is told. -/
import Derived.Test.YtlgbhpphfimdbaaEv4
namespace Go.Proofs.Ytlgbhpphfimdbaa.Ev
set_option linter.unusedVariables false
set_option linter.unusedSimpArgs false

abbrev noCol : Col := fun _ => none

theorem Keeps.no (w : World) (φ : Col) : Keeps w w φ noCol := fun _ _ _ => ⟨rfl, rfl⟩
theorem Ro.no {k : K} {w : World} {φ : Col} {x : k.T} {cs : List Value} (h : Ro k w φ x cs) : Ro k w noCol x cs := h.keep (Keeps.no w φ)
theorem Ow.no {k : K} {w : World} {φ : Col} {p : Path} {x : k.T} {cs : List Value} (h : Ow k w φ p x cs) : Ro k w noCol x cs := h.free (fun _ _ _ _ => ⟨rfl, rfl⟩) (Keeps.no w φ)
theorem OwL.no {k : K} {e : Nat} {w : World} {φ : Col} {p : Path} {xs : List k.T} {v : Value} (h : OwL (Ow k w φ) e k.sz w φ p xs v) : Ro (.rs e k) w noCol xs [v] :=
  Ow.no (k := .sl e k) (p := p) ⟨v, rfl, h⟩

structure SL where
  e : Nat
  k : K
  xs : List k.T

def leafSl : (k : K) → k.T → Nat → Option SL
  | .sl e k, xs, 0 => some ⟨e, k, xs⟩
  | .rs e k, xs, 0 => some ⟨e, k, xs⟩
  | .pair a b, x, j => match Nat.blt j a.sz with
    | true => leafSl a x.1 j
    | false => leafSl b x.2 (j - a.sz)
  | _, _, _ => none

theorem blt_iff {a b : Nat} : Nat.blt a b = true ↔ a < b := by simp [Nat.blt_eq]
theorem blt_false {a b : Nat} : Nat.blt a b = false ↔ ¬ a < b := by rw [← blt_iff]; cases Nat.blt a b <;> simp

theorem leafSl_ro : ∀ {k : K} {w : World} {φ : Col} {x : k.T} {cs : List Value} {off : Nat} {sl : SL} {v : Value},
    Ro k w φ x cs → leafSl k x off = some sl → cs[off]? = some v → Ro (.rs sl.e sl.k) w φ sl.xs [v]
  | .int _, _, _, _, _, _, _, _, _, h, _ => by simp [leafSl] at h
  | .bool, _, _, _, _, _, _, _, _, h, _ => by simp [leafSl] at h
  | .str, _, _, _, _, _, _, _, _, h, _ => by simp [leafSl] at h
  | .sl e k, _, _, _, cs, off, sl, v, hr, h, hv => by
    cases off with
    | zero =>
      simp only [leafSl] at h; injection h with h; subst h
      have hr' := hr
      obtain ⟨A, c, rfl, _⟩ := hr'
      simp at hv; subst hv; exact hr
    | succ j => simp [leafSl] at h
  | .rs e k, _, _, _, cs, off, sl, v, hr, h, hv => by
    cases off with
    | zero =>
      simp only [leafSl] at h; injection h with h; subst h
      have hr' := hr
      obtain ⟨A, c, rfl, _⟩ := hr'
      simp at hv; subst hv; exact hr
    | succ j => simp [leafSl] at h
  | .pair a b, _, _, _, cs, off, sl, v, hr, h, hv => by
    obtain ⟨c0, c1, rfl, h0, h1⟩ := hr
    simp only [leafSl] at h
    split at h
    · rename_i e
      have hlt := blt_iff.1 e
      rw [List.getElem?_append_left (by rw [h0.len]; exact hlt)] at hv
      exact leafSl_ro h0 h hv
    · rename_i e
      have hge := blt_false.1 e
      rw [List.getElem?_append_right (by rw [h0.len]; omega), h0.len] at hv
      exact leafSl_ro h1 h hv

theorem ro_cut {e : Nat} {k : K} {w : World} {φ : Col} {xs : List k.T} {v : Value} (h : Ro (.rs e k) w φ xs [v]) {lo hi : Nat} (h1 : lo ≤ hi) (h2 : hi ≤ xs.length) :
    Ro (.rs e k) w φ ((xs.take hi).drop lo) [cutV k.sz lo hi v] := by
  obtain ⟨A, c, e1, hl, hm, hc⟩ := h
  injection e1 with e1 _
  subst e1
  have hlen : ((xs.take hi).drop lo).length = hi - lo := by rw [List.length_drop, List.length_take]; omega
  refine ⟨if c = lo then A else A.map (·.add (lo * k.sz)), c - lo, by rw [hlen]; rfl, by rw [hlen]; omega, by omega, fun hn => ?_⟩
  rw [hlen] at hn
  obtain ⟨ad, rfl, hφ, hi'⟩ := hc (by omega)
  rw [if_neg (by omega)]
  refine ⟨ad.add (lo * k.sz), rfl, by rw [add_block]; exact hφ, fun i hli => ?_⟩
  have hlt : lo + i < xs.length := by rw [hlen] at hli; omega
  obtain ⟨ds, hd, hr, hcell⟩ := hi' (lo + i) hlt
  refine ⟨ds, hd, ?_, fun j u hu => ?_⟩
  · have : ((xs.take hi).drop lo)[i] = xs[lo + i] := by simp
    rw [this]; exact hr
  · have h3 := hcell j u hu
    have hsp : ad.spot = none := by
      obtain ⟨ds0, hd0, hr0, hcell0⟩ := hi' 0 (by omega)
      have h0 : 0 < ds0.length := by rw [hd0]; exact k.sz_pos
      have := hcell0 0 ds0[0] (by simp [h0])
      simp only [Nat.zero_mul, Nat.zero_add, Addr.add, if_true] at this
      unfold World.cell? at this
      split at this
      · split at this
        · cases this
        · rename_i hh; simpa using hh
      · cases this
    have e4 : (ad.add (lo * k.sz)).add (i * k.sz + j) = ad.add ((lo + i) * k.sz + j) := by
      obtain ⟨ab, ao, asp⟩ := ad
      simp only at hsp; subst hsp
      simp only [Addr.add, Nat.add_mul]
      split <;> split <;> split <;> simp_all <;> omega
    rw [e4]; exact h3

/-- An element that is read: the zero one where there is none. -/
def rd (k : K) (xs : List k.T) (i : Int) : k.T := xs.getD i.toNat (zd k)

theorem rd_eq {k : K} {xs : List k.T} {i : Int} (h : i.toNat < xs.length) : rd k xs i = xs[i.toNat] := by
  simp [rd, List.getD_eq_getElem?_getD, h]

theorem ro_elem {e : Nat} {k : K} {w : World} {φ : Col} {xs : List k.T} {v : Value} (h : Ro (.rs e k) w φ xs [v]) {i : Nat} (hi : i < xs.length) :
    ∃ (c : Nat) (ad : Addr) (ds : List Value), v = .slice (some ad) xs.length c ∧ φ ad.block = none ∧ Ro k w φ xs[i] ds ∧ ∀ j u, ds[j]? = some u → w.cell? (ad.add (i * k.sz + j)) = some u := by
  obtain ⟨A, c, e1, hl, hm, hc⟩ := h
  injection e1 with e1 _
  subst e1
  obtain ⟨ad, rfl, hφ, hh⟩ := hc (by omega)
  obtain ⟨ds, hd, hr, hcell⟩ := hh i hi
  exact ⟨c, ad, ds, rfl, hφ, hr, hcell⟩

/-- What a slice holds, and what was read to know it. -/
def content (cfg : Cfg) (s : St) (t : Nat) : Lf → Option (SL × List (Loc × LV))
  | .nil => match cfg.el t with
    | some e => match cfg.ty e with
      | some i => some (⟨e, i.k, []⟩, [])
      | none => none
    | none => none
  | .ro e k xs => some (⟨e, k, xs⟩, [])
  | .own id => match s.getR id with
    | some r => some (⟨r.e, r.k, r.xs⟩, [(.r id, .r r)])
    | none => none
  | .vw id lo hi => match s.getR id with
    | some r => some (⟨r.e, r.k, (r.xs.take hi).drop lo⟩, [(.r id, .r r)])
    | none => none
  | .sub id q off ver => match s.getR id, s.getX q with
    | some r, some i => match Nat.beq r.ver ver with
      | true => match leafSl r.k (rd r.k r.xs i) off with
        | some sl => some (sl, [(.r id, .r r), (.x q, .x i)])
        | none => none
      | false => none
    | _, _ => none
  | _ => none

theorem rowAddr_slice (ad : Addr) (n c : Nat) : rowAddr (.slice (some ad) n c) = ad := rfl

theorem content_ok {cfg : Cfg} {s s' : St} {t : Nat} {l : Lf} {sl : SL} {rds : List (Loc × LV)} (h : content cfg s t l = some (sl, rds)) {n : Nat} {w0 : World} {φ0 : Gh} {a : Act} {m : Mem}
    (hr : Rel n w0 φ0 s' a m) (hrd : Reads s' rds) {v : Value} (hv : LfC s' m l v) : Ro (.rs sl.e sl.k) m.w noCol sl.xs [v] := by
  cases l with
  | nil =>
    simp only [content] at h
    split at h
    · split at h
      · injection h with h; injection h with h _; subst h
        simp only [LfC] at hv; subst hv
        exact ⟨none, 0, rfl, Nat.le_refl _, Nat.zero_le _, fun h => by simp at h⟩
      · cases h
    · cases h
  | ro e k xs =>
    simp only [content] at h
    injection h with h; injection h with h _; subst h
    exact Ro.no (k := .rs e k) hv
  | own id =>
    simp only [content] at h
    split at h
    · rename_i r hrow
      injection h with h; injection h with h1 h2; subst h1; subst h2
      have hg := hrd _ List.mem_cons_self
      rw [hv.2 r hg]
      exact (hr.rw id r hg).no
    · cases h
  | vw id lo hi =>
    simp only [content] at h
    split at h
    · rename_i r hrow
      injection h with h; injection h with h1 h2; subst h1; subst h2
      have hg := hrd _ List.mem_cons_self
      obtain ⟨h1, h2, h3⟩ := hv.2 r hg
      rw [h3]
      exact ro_cut (hr.rw id r hg).no h1 h2
    · cases h
  | sub id q off ver =>
    simp only [content] at h
    split at h
    · rename_i r i hrow hix
      split at h
      · rename_i hver
        split at h
        · rename_i sl' hsl
          injection h with h; injection h with h1 h2; subst h1; subst h2
          have hg := hrd (.r id, .r r) (by simp)
          have hq := hrd (.x q, .x i) (by simp)
          obtain ⟨h0, h5⟩ := hv.2 r i hg hq
          obtain ⟨h1, h2, h3, h4⟩ := h5 (Nat.eq_of_beq_eq_true hver)
          have hno := (hr.rw id r hg).no
          obtain ⟨c, ad, ds, e1, _, hro, hcell⟩ := ro_elem hno h2
          rw [rd_eq h2] at hsl
          have hlen := hro.len
          have hd : ds[off]? = some ds[off] := by simp [show off < ds.length by omega]
          have := hcell off _ hd
          rw [e1, rowAddr_slice] at h4
          rw [this] at h4
          injection h4 with h4
          exact leafSl_ro hro hsl (h4 ▸ hd)
        · cases h
      · cases h
    · cases h
  | int k n => simp [content] at h
  | bool b => simp [content] at h
  | str x => simp [content] at h
  | ptr b off => simp [content] at h
  | ept id q off => simp [content] at h
  | rpt k x off => simp [content] at h
  | fn f => simp [content] at h
  | anyb => simp [content] at h

theorem content_reads {cfg : Cfg} {s : St} {t : Nat} {l : Lf} {sl : SL} {rds : List (Loc × LV)} (h : content cfg s t l = some (sl, rds)) : Reads s rds := by
  unfold content at h
  split at h
  · split at h
    · split at h
      · injection h with h; injection h with _ h; subst h; intro p hp; cases hp
      · cases h
    · cases h
  · injection h with h; injection h with _ h; subst h; intro p hp; cases hp
  · split at h
    · rename_i r hr
      injection h with h; injection h with _ h; subst h
      intro p hp; rw [List.mem_singleton.1 hp]; exact St.getR_some.1 hr
    · cases h
  · split at h
    · rename_i r hr
      injection h with h; injection h with _ h; subst h
      intro p hp; rw [List.mem_singleton.1 hp]; exact St.getR_some.1 hr
    · cases h
  · split at h
    · rename_i r i hr hi
      split at h
      · split at h
        · injection h with h; injection h with _ h; subst h
          intro p hp
          simp only [List.mem_cons, List.not_mem_nil, or_false] at hp
          rcases hp with rfl | rfl
          · exact St.getR_some.1 hr
          · exact St.getX_some.1 hi
        · cases h
      · cases h
    · cases h
  · cases h

end Go.Proofs.Ytlgbhpphfimdbaa.Ev
