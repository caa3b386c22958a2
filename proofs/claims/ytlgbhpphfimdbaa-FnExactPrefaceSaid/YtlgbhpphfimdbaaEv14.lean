/- Appends. -/
import Derived.Test.YtlgbhpphfimdbaaEv13
namespace Go.Proofs.Ytlgbhpphfimdbaa.Ev
set_option linter.unusedVariables false
set_option linter.unusedSimpArgs false

/-- No rows of one's own inside. -/
def K.flat : K → Bool
  | .sl _ _ => false
  | .pair a b => a.flat && b.flat
  | _ => true

theorem flat_any : ∀ {k : K} {w : World} {φ : Col} {p p' : Path} {x : k.T} {cs : List Value}, k.flat = true → Ow k w φ p x cs → Ow k w φ p' x cs
  | .int _, _, _, _, _, _, _, _, h => h
  | .bool, _, _, _, _, _, _, _, h => h
  | .str, _, _, _, _, _, _, _, h => h
  | .rs _ _, _, _, _, _, _, _, _, h => h
  | .sl _ _, _, _, _, _, _, _, hf, _ => by simp [K.flat] at hf
  | .pair a b, _, _, _, _, _, _, hf, h => by
    simp only [K.flat, Bool.and_eq_true] at hf
    obtain ⟨c0, c1, rfl, h0, h1⟩ := h
    exact ⟨c0, c1, rfl, flat_any hf.1 h0, flat_any hf.2 h1⟩

theorem flat_ro : ∀ {k : K} {w : World} {φ : Col} {p : Path} {x : k.T} {cs : List Value}, k.flat = true → Ro k w φ x cs → Ow k w φ p x cs
  | .int _, _, _, _, _, _, _, h => h
  | .bool, _, _, _, _, _, _, h => h
  | .str, _, _, _, _, _, _, h => h
  | .rs _ _, _, _, _, _, _, _, h => h
  | .sl _ _, _, _, _, _, _, hf, _ => by simp [K.flat] at hf
  | .pair a b, _, _, _, _, _, hf, h => by
    simp only [K.flat, Bool.and_eq_true] at hf
    obtain ⟨c0, c1, rfl, h0, h1⟩ := h
    exact ⟨c0, c1, rfl, flat_ro hf.1 h0, flat_ro hf.2 h1⟩

/-- A slice that can be read now; R tells its elements. -/
def Now {k : K} (R : Nat → k.T → List Value → Prop) (w : World) (xs : List k.T) (v : Value) : Prop :=
  ∃ A c, v = .slice A xs.length c ∧ xs.length ≤ c ∧ (0 < xs.length → ∃ ad : Addr, A = some ad ∧
    ∀ i (h : i < xs.length), ∃ ds, ds.length = k.sz ∧ R i xs[i] ds ∧ ∀ j u, ds[j]? = some u → w.cell? (ad.add (i * k.sz + j)) = some u)

theorem OwL.now {k : K} {e : Nat} {w : World} {φ : Col} {p : Path} {xs : List k.T} {v : Value} (h : OwL (Ow k w φ) e k.sz w φ p xs v) : Now (k := k) (fun i => Ow k w φ (p ++ [i])) w xs v := by
  obtain ⟨inner, ho, hc, hi⟩ := h
  rcases ho.2 with ⟨rfl, hn⟩ | ⟨g, cap, cur, fz, rfl, _, hg, hfz, hn, hcap, hs, ht⟩
  · exact ⟨none, 0, by rw [hn], by omega, fun h => by omega⟩
  · refine ⟨some ⟨g, 0, none⟩, cap, rfl, hn, fun _ => ⟨_, rfl, fun i h => ⟨_, (hi i h).len, hi i h, fun j u hu => ?_⟩⟩⟩
    have hj : j < k.sz := by
      have := (List.getElem?_eq_some_iff.1 hu).1
      rw [(hi i h).len] at this; exact this
    rw [List.getElem?_take_of_lt hj, List.getElem?_drop] at hu
    exact owns_cells ho rfl _ _ hu

theorem Ro.now {k : K} {e : Nat} {w : World} {φ : Col} {xs : List k.T} {v : Value} (h : Ro (.rs e k) w φ xs [v]) : Now (k := k) (fun _ => Ro k w φ) w xs v := by
  obtain ⟨A, c, e1, hl, hm, hc⟩ := h
  injection e1 with e1 _
  subst e1
  refine ⟨A, c, rfl, hl, fun hn => ?_⟩
  obtain ⟨ad, rfl, _, hi⟩ := hc hn
  exact ⟨ad, rfl, hi⟩

theorem Now.imp {k : K} {R R' : Nat → k.T → List Value → Prop} {w : World} {xs : List k.T} {v : Value} (h : Now R w xs v) (hR : ∀ i x ds, R i x ds → R' i x ds) : Now R' w xs v := by
  obtain ⟨A, c, e, hl, hc⟩ := h
  refine ⟨A, c, e, hl, fun hn => ?_⟩
  obtain ⟨ad, e1, hi⟩ := hc hn
  exact ⟨ad, e1, fun i h => let ⟨ds, h1, h2, h3⟩ := hi i h; ⟨ds, h1, hR _ _ _ h2, h3⟩⟩

theorem Now.cut {k : K} {R : k.T → List Value → Prop} {w : World} {xs : List k.T} {v : Value} (h : Now (fun _ => R) w xs v) {lo hi : Nat} (h1 : lo ≤ hi) (h2 : hi ≤ xs.length) : Now (fun _ => R) w ((xs.take hi).drop lo) (cutV k.sz lo hi v) := by
  obtain ⟨A, c, rfl, hl, hc⟩ := h
  have hlen : ((xs.take hi).drop lo).length = hi - lo := by rw [List.length_drop, List.length_take]; omega
  refine ⟨if c = lo then A else A.map (·.add (lo * k.sz)), c - lo, by rw [hlen]; rfl, by rw [hlen]; omega, fun hn => ?_⟩
  rw [hlen] at hn
  obtain ⟨ad, rfl, hi'⟩ := hc (by omega)
  rw [if_neg (by omega)]
  refine ⟨ad.add (lo * k.sz), rfl, fun i hli => ?_⟩
  have hlt : lo + i < xs.length := by rw [hlen] at hli; omega
  obtain ⟨ds, hd, hr, hcell⟩ := hi' (lo + i) hlt
  refine ⟨ds, hd, ?_, fun j u hu => ?_⟩
  · have : ((xs.take hi).drop lo)[i] = xs[lo + i] := by simp
    rw [this]; exact hr
  · have hsp : ad.spot = none := by
      obtain ⟨ds0, hd0, hr0, hcell0⟩ := hi' 0 (by omega)
      have h0 : 0 < ds0.length := by rw [hd0]; exact k.sz_pos
      have := cell_spot (hcell0 0 ds0[0] (by simp [h0]))
      simpa [Addr.add] using this
    rw [add_add _ hsp, ← Nat.add_assoc, ← Nat.add_mul]
    exact hcell j u hu

theorem leafSl_now : ∀ {k : K} {w : World} {φ : Col} {p : Path} {x : k.T} {cs : List Value} {off : Nat} {sl : SL} {v : Value},
    Ow k w φ p x cs → leafSl k x off = some sl → sl.k.flat = true → cs[off]? = some v → Now (fun _ => Ow sl.k w φ []) w sl.xs v
  | .int _, _, _, _, _, _, _, _, _, _, h, _, _ => by simp [leafSl] at h
  | .bool, _, _, _, _, _, _, _, _, _, h, _, _ => by simp [leafSl] at h
  | .str, _, _, _, _, _, _, _, _, _, h, _, _ => by simp [leafSl] at h
  | .sl e k, _, _, _, _, cs, off, sl, v, hr, h, hf, hv => by
    cases off with
    | zero =>
      simp only [leafSl] at h; injection h with h; subst h
      obtain ⟨v', rfl, ho⟩ := hr
      simp at hv; subst hv
      exact ho.now.imp fun i x ds hx => flat_any hf hx
    | succ j => simp [leafSl] at h
  | .rs e k, w, φ, _, _, cs, off, sl, v, hr, h, hf, hv => by
    cases off with
    | zero =>
      simp only [leafSl] at h; injection h with h; subst h
      have hr' : Ro (.rs e k) w φ _ cs := hr
      obtain ⟨A, c, rfl, _⟩ := hr
      simp at hv; subst hv
      exact (Ro.now hr').imp fun i x ds hx => flat_ro hf hx
    | succ j => simp [leafSl] at h
  | .pair a b, _, _, _, _, cs, off, sl, v, hr, h, hf, hv => by
    obtain ⟨c0, c1, rfl, h0, h1⟩ := hr
    simp only [leafSl] at h
    split at h
    · rename_i e
      have hlt := blt_iff.1 e
      rw [List.getElem?_append_left (by rw [h0.len]; exact hlt)] at hv
      exact leafSl_now h0 h hf hv
    · rename_i e
      have hge := blt_false.1 e
      rw [List.getElem?_append_right (by rw [h0.len]; omega), h0.len] at hv
      exact leafSl_now h1 h hf hv

theorem content_now {cfg : Cfg} {s s' : St} {t : Nat} {l : Lf} {sl : SL} {rds : List (Loc × LV)} (h : content cfg s t l = some (sl, rds)) (hf : sl.k.flat = true) {n : Nat} {w0 : World} {φ0 : Gh} {a : Act} {m : Mem}
    (hr : Rel n w0 φ0 s' a m) (hrd : Reads s' rds) {v : Value} (hv : LfC s' m l v) : Now (fun _ => Ow sl.k m.w m.φ []) m.w sl.xs v := by
  cases l with
  | nil =>
    simp only [content] at h
    split at h
    · split at h
      · injection h with h; injection h with h _; subst h
        simp only [LfC] at hv; subst hv
        exact ⟨none, 0, rfl, Nat.le_refl _, fun h => by simp at h⟩
      · cases h
    · cases h
  | ro e k xs =>
    simp only [content] at h
    injection h with h; injection h with h _; subst h
    have hv' : Ro (.rs e k) m.w m.φ xs [v] := hv
    exact (Ro.now hv').imp fun i x ds hx => flat_ro hf hx
  | own id =>
    simp only [content] at h
    split at h
    · rename_i r hrow
      injection h with h; injection h with h1 h2; subst h1; subst h2
      have hg := hrd _ List.mem_cons_self
      rw [hv.2 r hg]
      exact (hr.rw id r hg).now.imp fun i x ds hx => flat_any hf hx
    · cases h
  | vw id lo hi =>
    simp only [content] at h
    split at h
    · rename_i r hrow
      injection h with h; injection h with h1 h2; subst h1; subst h2
      have hg := hrd _ List.mem_cons_self
      obtain ⟨h1, h2, h3⟩ := hv.2 r hg
      rw [h3]
      exact ((hr.rw id r hg).now.imp fun i x ds hx => flat_any (p' := []) hf hx).cut h1 h2
    · cases h
  | sub id q off ver =>
    simp only [content] at h
    split at h
    · rename_i r i hrow hix
      split at h
      · rename_i hver
        split at h
        · rename_i sl' hsl
          injection h with h; injection h with h1 h2; subst h1; subst h2
          have hg := hrd (.r id, .r r) (by simp)
          have hq := hrd (.x q, .x i) (by simp)
          obtain ⟨h0, h5⟩ := hv.2 r i hg hq
          obtain ⟨h1, h2, h3, h4⟩ := h5 (Nat.eq_of_beq_eq_true hver)
          obtain ⟨g, cap, ds, e1, _, how, hcell⟩ := ow_elem (hr.rw id r hg) h2
          rw [rd_eq h2] at hsl
          have hlen := how.len
          have hd : ds[off]? = some ds[off] := by simp [show off < ds.length by omega]
          have := hcell off _ hd
          rw [e1, rowAddr_slice, add_plain, Nat.zero_add] at h4
          rw [this] at h4
          injection h4 with h4
          exact leafSl_now how hsl hf (h4 ▸ hd)
        · cases h
      · cases h
    · cases h
  | int k n => simp [content] at h
  | bool b => simp [content] at h
  | str x => simp [content] at h
  | ptr b off => simp [content] at h
  | ept id q off => simp [content] at h
  | rpt k x off => simp [content] at h
  | fn f => simp [content] at h
  | anyb => simp [content] at h

theorem OwEls.of_get {k : K} {w : World} {φ : Col} {p : Path} : ∀ {j : Nat} {ys : List k.T} {cs : List Value}, cs.length = ys.length * k.sz → (∀ i (h : i < ys.length), Ow k w φ (p ++ [j + i]) ys[i] ((cs.drop (i * k.sz)).take k.sz)) → OwEls k w φ p j ys cs
  | _, [], cs, hl, _ => List.eq_nil_of_length_eq_zero (by simpa using hl)
  | j, y :: ys, cs, hl, h => by
    have hle : k.sz ≤ cs.length := by rw [hl, List.length_cons, Nat.succ_mul]; omega
    refine ⟨cs.take k.sz, cs.drop k.sz, (List.take_append_drop _ _).symm, by have := h 0 (by simp); rw [Nat.zero_mul, List.drop_zero, Nat.add_zero] at this; exact this, OwEls.of_get ?_ fun i hi => ?_⟩
    · rw [List.length_drop, hl, List.length_cons, Nat.succ_mul]; omega
    · have := h (i + 1) (by simpa using hi)
      simp only [List.getElem_cons_succ, Nat.succ_mul] at this
      rw [List.drop_drop, Nat.add_comm k.sz]
      rw [show j + 1 + i = j + (i + 1) by omega]
      exact this

/-- The cells of what can be read now, side by side. -/
theorem Now.cells {k : K} {w : World} {φ : Col} {p : Path} {j : Nat} {xs : List k.T} {v : Value} (h : Now (fun i => Ow k w φ (p ++ [j + i])) w xs v) :
    ∃ A c news, v = .slice A xs.length c ∧ news.length = xs.length * k.sz ∧ (∀ ad, A = some ad → ∀ i u, news[i]? = some u → w.cell? (ad.add i) = some u) ∧ (A = none → xs = []) ∧ OwEls k w φ p j xs news := by
  obtain ⟨A, c, rfl, hl, hc⟩ := h
  by_cases hn : 0 < xs.length
  · obtain ⟨ad, rfl, hi⟩ := hc hn
    have hseg : ∀ i (h : i < xs.length), ∃ ds, ds.length = k.sz ∧ Ow k w φ (p ++ [j + i]) xs[i] ds ∧ ((((List.range (xs.length * k.sz)).map fun q => (w.cell? (ad.add q)).getD undef).drop (i * k.sz)).take k.sz) = ds ∧ ∀ t u, ds[t]? = some u → w.cell? (ad.add (i * k.sz + t)) = some u := by
      intro i hi2
      obtain ⟨ds, h1, h2, h3⟩ := hi i hi2
      refine ⟨ds, h1, h2, ?_, h3⟩
      have hle : i * k.sz + k.sz ≤ xs.length * k.sz := by rw [← Nat.succ_mul]; exact Nat.mul_le_mul_right _ hi2
      apply List.ext_getElem
      · simp [h1]; omega
      · intro t ht1 ht2
        have := h3 t ds[t] (by simp [ht2])
        simp [this]
    refine ⟨some ad, c, (List.range (xs.length * k.sz)).map fun q => (w.cell? (ad.add q)).getD undef, rfl, by simp, fun ad' e i u hu => ?_, fun e => (nomatch e), OwEls.of_get (by simp) fun i hi2 => ?_⟩
    · injection e with e; subst e
      have hlt := (List.getElem?_eq_some_iff.1 hu).1
      simp only [List.length_map, List.length_range] at hlt
      have hq : i / k.sz < xs.length := (Nat.div_lt_iff_lt_mul k.sz_pos).2 hlt
      obtain ⟨ds, h1, h2, h3, h4⟩ := hseg (i / k.sz) hq
      have hr : i % k.sz < k.sz := Nat.mod_lt _ k.sz_pos
      have hdm : i / k.sz * k.sz + i % k.sz = i := by rw [Nat.mul_comm]; exact Nat.div_add_mod i k.sz
      have := h4 (i % k.sz) ds[i % k.sz] (by simp [show i % k.sz < ds.length by omega])
      rw [hdm] at this
      rw [List.getElem?_map, List.getElem?_range hlt, Option.map_some, this] at hu
      injection hu with hu
      rw [this, ← hu]; rfl
    · obtain ⟨ds, h1, h2, h3, h4⟩ := hseg i hi2
      rw [h3]; exact h2
  · have : xs = [] := List.eq_nil_of_length_eq_zero (by omega)
    subst this
    exact ⟨A, c, [], rfl, by simp, fun ad _ i u hu => by simp at hu, fun _ => rfl, rfl⟩

theorem app_none {P : Program} {w : World} {t ty e : TypeId} {i : TypeInfo} {size : Nat} (ht : P.underlying t = some (.slice e)) (hi : P.info? e = some i) {v : Value} {n c : Nat} {xs : List Value} (hown : owns w 0 e size v n xs) :
    (Builtin.append_ #[t, t] ty #[v, .slice none 0 c]).run P w = .ok v w := by
  rcases hown.2 with ⟨rfl, rfl⟩ | ⟨g, cap, cur, fz, rfl, _, _, _, hnc, _⟩
  · simp [Builtin.append_, run_underlying ht, sizeOf, typeInfo, hi, Builtin.lenOf, Builtin.firstCells]
  · simp [Builtin.append_, run_underlying ht, sizeOf, typeInfo, hi, Builtin.lenOf, Builtin.firstCells, hnc, storeCells]

/-- An append's run: the same block, or a new one. -/
theorem app_run {P : Program} {w : World} {t ty e : TypeId} {i : TypeInfo} {z : Value} {size bytes : Nat} (ht : P.underlying t = some (.slice e)) (hi : P.info? e = some i) (hz : i.zero = some z)
    (hsize : i.size = size) (hby : i.bytes = bytes) (hzs : z.cells.size = size) (hsz : 0 < size) {v : Value} {n : Nat} {xs : List Value} (hown : owns w 0 e size v n xs)
    {A : Option Addr} {m c : Nat} {news : List Value} (hl : news.length = m * size) (hnews : ∀ ad, A = some ad → ∀ j u, news[j]? = some u → w.cell? (ad.add j) = some u) (hA : A = none → m = 0) (h1 : ∀ u ∈ news, u.oneCell' = true)
    (h63 : n + m ≤ maxLen) (hbytes : (n + m) * bytes ≤ 140737488355328) :
    ∃ v' w', (Builtin.append_ #[t, t] ty #[v, .slice A m c]).run P w = .ok v' w' ∧ owns w' 0 e size v' (n + m) (xs ++ news) ∧ w.grownBy w' v.ownBlock ∧ (v'.ownBlock = v.ownBlock ∨ v'.ownBlock = some w.heap.size) := by
  subst hsize; subst hby
  have hsmall : n + m ≤ 9223372036854775807 := by simp only [maxLen] at h63; omega
  cases A with
  | none =>
    obtain rfl := hA rfl
    have hn : news = [] := List.eq_nil_of_length_eq_zero (by simpa using hl)
    subst hn
    exact ⟨v, w, app_none ht hi hown, by simpa using hown, ⟨rfl, rfl, rfl, Nat.le_refl _, fun _ _ _ => rfl⟩, .inl rfl⟩
  | some ad =>
    obtain ⟨v', w', hrun, ho, hg, hnil⟩ := run_append_ownM (P := P) w 0 t ty e i z i.size i.bytes ht hi hz rfl rfl hzs hsz v n xs hown ad m c news hl (hnews ad rfl) h1 h63 hbytes (Nat.zero_le _)
    refine ⟨v', w', hrun, ho, hg, ?_⟩
    rcases hown.2 with ⟨rfl, rfl⟩ | ⟨g, cap, cur, fz, rfl, _, hgb, hfz, hnc, hcm, hcs, htake⟩
    · by_cases hm : m = 0
      · have := hnil.2 ⟨rfl, hm⟩
        subst this; exact .inl rfl
      · have hr := run_append_nil (P := P) w t ty e i z ht hi hz ad m c news hl (hnews ad rfl) (by omega) (by omega) (by have hb := hbytes; simp only [Nat.zero_add] at hb; omega)
        rw [hrun] at hr
        injection hr with hr _
        subst hr; exact .inr rfl
    · by_cases hroom : n + m ≤ cap
      · have hfit : n * i.size + news.length ≤ cur.size := by rw [hl, hcs, ← Nat.add_mul]; exact Nat.mul_le_mul_right _ hroom
        have hr := run_append_roomM (P := P) w t ty e i ht hi g n cap cur fz hgb hfz ad m c news hl (hnews ad rfl) h1 hroom hfit
        rw [hrun] at hr
        injection hr with hr _
        subst hr; exact .inl rfl
      · have holds : ∀ j u, xs[j]? = some u → w.cell? ((⟨g, 0, none⟩ : Addr).add j) = some u := owns_cells hown (g := g) rfl
        have hr := run_append_grow (P := P) w t ty e i z ht hi hz ⟨g, 0, none⟩ n cap xs hown.1 holds ad m c news hl (hnews ad rfl) (by omega) (by omega) (growslice_fits (by omega) hbytes)
        rw [hrun] at hr
        injection hr with hr _
        subst hr; exact .inr rfl

end Go.Proofs.Ytlgbhpphfimdbaa.Ev
