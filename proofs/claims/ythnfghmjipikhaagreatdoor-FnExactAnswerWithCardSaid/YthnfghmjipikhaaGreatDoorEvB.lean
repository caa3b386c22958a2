/- Appends, stores, contracts, regions, meetings and the evaluator of code. -/
import Derived.Test.YthnfghmjipikhaaGreatDoorEvA
import Derived.Orders
import Derived.RangeFuncIn
import Derived.RangeFuncRecord
import Derived.RangeFuncSeq
import Derived.RangeFuncCalls
import Derived.LoopN
set_option linter.unusedVariables false
set_option linter.unusedSimpArgs false
namespace Go.Proofs.YthnfghmjipikhaaGreatDoor.Ev

/-- No rows of one's own inside. -/
def K.flat : K → Bool
 | .sl _ _ => false
 | .pair a b => a.flat && b.flat
 | _ => true

theorem flat_any : ∀ {k : K} {w : World} {φ : Col} {p p' : Path} {x : k.T} {cs : List Value}, k.flat = true → Ow k w φ p x cs → Ow k w φ p' x cs
 | .int _, _, _, _, _, _, _, _, h => h
 | .bool, _, _, _, _, _, _, _, h => h
 | .fnc _, _, _, _, _, _, _, _, h => h
 | .str, _, _, _, _, _, _, _, h => h
 | .rs _ _, _, _, _, _, _, _, _, h => h
 | .pa _ _, _, _, _, _, _, _, _, h => h
 | .sl _ _, _, _, _, _, _, _, hf, _ => by simp [K.flat] at hf
 | .pair a b, _, _, _, _, _, _, hf, h => by
  simp only [K.flat, Bool.and_eq_true] at hf
  obtain ⟨c0, c1, rfl, h0, h1⟩ := h
  exact ⟨c0, c1, rfl, flat_any hf.1 h0, flat_any hf.2 h1⟩

theorem flat_ro : ∀ {k : K} {w : World} {φ : Col} {p : Path} {x : k.T} {cs : List Value}, k.flat = true → Ro k w φ x cs → Ow k w φ p x cs
 | .int _, _, _, _, _, _, _, h => h
 | .bool, _, _, _, _, _, _, h => h
 | .fnc _, _, _, _, _, _, _, h => h
 | .str, _, _, _, _, _, _, h => h
 | .rs _ _, _, _, _, _, _, _, h => h
 | .pa _ _, _, _, _, _, _, _, h => h
 | .sl _ _, _, _, _, _, _, hf, _ => by simp [K.flat] at hf
 | .pair a b, _, _, _, _, _, hf, h => by
  simp only [K.flat, Bool.and_eq_true] at hf
  obtain ⟨c0, c1, rfl, h0, h1⟩ := h
  exact ⟨c0, c1, rfl, flat_ro hf.1 h0, flat_ro hf.2 h1⟩

/-- A slice that can be read now; R tells its elements. -/
def Now {k : K} (R : Nat → k.T → List Value → Prop) (w : World) (xs : List k.T) (v : Value) : Prop :=
 ∃ A c, v = .slice A xs.length c ∧ xs.length ≤ c ∧ (0 < xs.length → ∃ ad : Addr, A = some ad ∧
  ∀ i (h : i < xs.length), ∃ ds, ds.length = k.sz ∧ R i xs[i] ds ∧ ∀ j u, ds[j]? = some u → w.cell? (ad.add (i * k.sz + j)) = some u)

theorem OwL.now {k : K} {e : Nat} {w : World} {φ : Col} {p : Path} {xs : List k.T} {v : Value} (h : OwL (Ow k w φ) e k.sz w φ p xs v) : Now (k := k) (fun i => Ow k w φ (p ++ [i])) w xs v := by
 obtain ⟨inner, ho, hc, hi⟩ := h
 rcases ho.2 with ⟨rfl, hn⟩ | ⟨g, cap, cur, fz, rfl, _, hg, hfz, hn, hcap, hs, ht⟩
 ·exact ⟨none, 0, by rw [hn], by omega, fun h => by omega⟩
 ·refine ⟨some ⟨g, 0, none⟩, cap, rfl, hn, fun _ => ⟨_, rfl, fun i h => ⟨_, (hi i h).len, hi i h, fun j u hu => ?_⟩⟩⟩
  have hj : j < k.sz := by
   have := (List.getElem?_eq_some_iff.1 hu).1
   rw [(hi i h).len] at this; exact this
  rw [List.getElem?_take_of_lt hj, List.getElem?_drop] at hu
  exact owns_cells ho rfl _ _ hu

theorem Ro.now {k : K} {e : Nat} {w : World} {φ : Col} {xs : List k.T} {v : Value} (h : Ro (.rs e k) w φ xs [v]) : Now (k := k) (fun _ => Ro k w φ) w xs v := by
 obtain ⟨A, c, e1, hl, hm, hc⟩ := h
 injection e1 with e1 _
 subst e1
 refine ⟨A, c, rfl, hl, fun hn => ?_⟩
 obtain ⟨ad, rfl, _, hi⟩ := hc hn
 exact ⟨ad, rfl, hi⟩

theorem Now.imp {k : K} {R R' : Nat → k.T → List Value → Prop} {w : World} {xs : List k.T} {v : Value} (h : Now R w xs v) (hR : ∀ i x ds, R i x ds → R' i x ds) : Now R' w xs v := by
 obtain ⟨A, c, e, hl, hc⟩ := h
 refine ⟨A, c, e, hl, fun hn => ?_⟩
 obtain ⟨ad, e1, hi⟩ := hc hn
 exact ⟨ad, e1, fun i h => let ⟨ds, h1, h2, h3⟩ := hi i h; ⟨ds, h1, hR _ _ _ h2, h3⟩⟩

theorem Now.cut {k : K} {R : k.T → List Value → Prop} {w : World} {xs : List k.T} {v : Value} (h : Now (fun _ => R) w xs v) {lo hi : Nat} (h1 : lo ≤ hi) (h2 : hi ≤ xs.length) : Now (fun _ => R) w ((xs.take hi).drop lo) (cutV k.sz lo hi v) := by
 obtain ⟨A, c, rfl, hl, hc⟩ := h
 have hlen : ((xs.take hi).drop lo).length = hi - lo := by rw [List.length_drop, List.length_take]; omega
 refine ⟨if c = lo then A else A.map (·.add (lo * k.sz)), c - lo, by rw [hlen]; rfl, by rw [hlen]; omega, fun hn => ?_⟩
 rw [hlen] at hn
 obtain ⟨ad, rfl, hi'⟩ := hc (by omega)
 rw [if_neg (by omega)]
 refine ⟨ad.add (lo * k.sz), rfl, fun i hli => ?_⟩
 have hlt : lo + i < xs.length := by rw [hlen] at hli; omega
 obtain ⟨ds, hd, hr, hcell⟩ := hi' (lo + i) hlt
 refine ⟨ds, hd, ?_, fun j u hu => ?_⟩
 ·have : ((xs.take hi).drop lo)[i] = xs[lo + i] := by simp
  rw [this]; exact hr
 ·have hsp : ad.spot = none := by
   obtain ⟨ds0, hd0, hr0, hcell0⟩ := hi' 0 (by omega)
   have h0 : 0 < ds0.length := by rw [hd0]; exact k.sz_pos
   have := cell_spot (hcell0 0 ds0[0] (by simp [h0]))
   simpa [Addr.add] using this
  rw [add_add _ hsp, ← Nat.add_assoc, ← Nat.add_mul]
  exact hcell j u hu

theorem leafSl_now : ∀ {k : K} {w : World} {φ : Col} {p : Path} {x : k.T} {cs : List Value} {off : Nat} {sl : SL} {v : Value},
  Ow k w φ p x cs → leafSl k x off = some sl → sl.k.flat = true → cs[off]? = some v → Now (fun _ => Ow sl.k w φ []) w sl.xs v
 | .int _, _, _, _, _, _, _, _, _, _, h, _, _ => by simp [leafSl] at h
 | .bool, _, _, _, _, _, _, _, _, _, h, _, _ => by simp [leafSl] at h
 | .fnc _, _, _, _, _, _, _, _, _, _, h, _, _ => by simp [leafSl] at h
 | .str, _, _, _, _, _, _, _, _, _, h, _, _ => by simp [leafSl] at h
 | .pa _ _, _, _, _, _, _, _, _, _, _, h, _, _ => by simp [leafSl] at h
 | .sl e k, _, _, _, _, cs, off, sl, v, hr, h, hf, hv => by
  cases off with
  | zero =>
   simp only [leafSl] at h; injection h with h; subst h
   obtain ⟨v', rfl, ho⟩ := hr
   simp at hv; subst hv
   exact ho.now.imp fun i x ds hx => flat_any hf hx
  | succ j => simp [leafSl] at h
 | .rs e k, w, φ, _, _, cs, off, sl, v, hr, h, hf, hv => by
  cases off with
  | zero =>
   simp only [leafSl] at h; injection h with h; subst h
   have hr' : Ro (.rs e k) w φ _ cs := hr
   obtain ⟨A, c, rfl, _⟩ := hr
   simp at hv; subst hv
   exact (Ro.now hr').imp fun i x ds hx => flat_ro hf hx
  | succ j => simp [leafSl] at h
 | .pair a b, _, _, _, _, cs, off, sl, v, hr, h, hf, hv => by
  obtain ⟨c0, c1, rfl, h0, h1⟩ := hr
  simp only [leafSl] at h
  split at h
  ·rename_i e
   have hlt := blt_iff.1 e
   rw [List.getElem?_append_left (by rw [h0.len]; exact hlt)] at hv
   exact leafSl_now h0 h hf hv
  ·rename_i e
   have hge := blt_false.1 e
   rw [List.getElem?_append_right (by rw [h0.len]; omega), h0.len] at hv
   exact leafSl_now h1 h hf hv

theorem content_now {cfg : Cfg} {s s' : St} {t : Nat} {l : Lf} {sl : SL} {rds : List (Loc × LV)} (h : content cfg s t l = some (sl, rds)) (hf : sl.k.flat = true) {n : Nat} {w0 : World} {φ0 : Gh} {a : Act} {m : Mem}
  (hr : Rel n w0 φ0 s' a m) (hrd : Reads s' rds) {v : Value} (hv : LfC s' m l v) : Now (fun _ => Ow sl.k m.w m.φ []) m.w sl.xs v := by
 cases l with
 | nil =>
  simp only [content] at h
  split at h
  ·split at h
   ·injection h with h; injection h with h _; subst h
    simp only [LfC] at hv; subst hv
    exact ⟨none, 0, rfl, Nat.le_refl _, fun h => by simp at h⟩
   ·cases h
  ·cases h
 | ro e k xs =>
  simp only [content] at h
  injection h with h; injection h with h _; subst h
  have hv' : Ro (.rs e k) m.w m.φ xs [v] := hv
  exact (Ro.now hv').imp fun i x ds hx => flat_ro hf hx
 | own id =>
  simp only [content] at h
  split at h
  ·rename_i r hrow
   injection h with h; injection h with h1 h2; subst h1; subst h2
   have hg := hrd _ List.mem_cons_self
   rw [hv.2 r hg]
   exact (hr.rw id r hg).now.imp fun i x ds hx => flat_any hf hx
  ·cases h
 | vw id lo hi =>
  simp only [content] at h
  split at h
  ·rename_i r hrow
   injection h with h; injection h with h1 h2; subst h1; subst h2
   have hg := hrd _ List.mem_cons_self
   obtain ⟨h1, h2, h3⟩ := hv.2 r hg
   rw [h3]
   exact ((hr.rw id r hg).now.imp fun i x ds hx => flat_any (p' := []) hf hx).cut h1 h2
  ·cases h
 | sub id q off ver =>
  simp only [content] at h
  split at h
  ·rename_i r i hrow hix
   split at h
   ·rename_i hver
    split at h
    ·rename_i sl' hsl
     injection h with h; injection h with h1 h2; subst h1; subst h2
     have hg := hrd (.r id, .r r) (by simp)
     have hq := hrd (.x q, .x i) (by simp)
     obtain ⟨h0, h5⟩ := hv.2 r i hg hq
     obtain ⟨h1, h2, h3, h4⟩ := h5 (Nat.eq_of_beq_eq_true hver)
     obtain ⟨g, cap, ds, e1, _, how, hcell⟩ := ow_elem (hr.rw id r hg) h2
     rw [rd_eq h2] at hsl
     have hlen := how.len
     have hd : ds[off]? = some ds[off] := by simp [show off < ds.length by omega]
     have := hcell off _ hd
     rw [e1, rowAddr_slice, add_plain, Nat.zero_add] at h4
     rw [this] at h4
     injection h4 with h4
     exact leafSl_now how hsl hf (h4 ▸ hd)
    ·cases h
   ·cases h
  ·cases h
 | int k n => simp [content] at h
 | bool b => simp [content] at h
 | str x => simp [content] at h
 | ptr b off => simp [content] at h
 | ept id q off => simp [content] at h
 | rpt k x off => simp [content] at h
 | rpa n k x => simp [content] at h
 | mp _ => simp [content] at h
 | mpb _ => simp [content] at h
 | apt n id => simp [content] at h
 | fn f => simp [content] at h
 | anyb => simp [content] at h
 | chk _ _ _ _ _ => simp [content] at h
 | clo _ _ _ => simp [content] at h
 | any => simp [content] at h
 | nilp => simp [content] at h
 | ext id q off ver p e k zs => simp [content] at h

theorem OwEls.of_get {k : K} {w : World} {φ : Col} {p : Path} : ∀ {j : Nat} {ys : List k.T} {cs : List Value}, cs.length = ys.length * k.sz → (∀ i (h : i < ys.length), Ow k w φ (p ++ [j + i]) ys[i] ((cs.drop (i * k.sz)).take k.sz)) → OwEls k w φ p j ys cs
 | _, [], cs, hl, _ => List.eq_nil_of_length_eq_zero (by simpa using hl)
 | j, y :: ys, cs, hl, h => by
  have hle : k.sz ≤ cs.length := by rw [hl, List.length_cons, Nat.succ_mul]; omega
  refine ⟨cs.take k.sz, cs.drop k.sz, (List.take_append_drop _ _).symm, by have := h 0 (by simp); rw [Nat.zero_mul, List.drop_zero, Nat.add_zero] at this; exact this, OwEls.of_get ?_ fun i hi => ?_⟩
  ·rw [List.length_drop, hl, List.length_cons, Nat.succ_mul]; omega
  ·have := h (i + 1) (by simpa using hi)
   simp only [List.getElem_cons_succ, Nat.succ_mul] at this
   rw [List.drop_drop, Nat.add_comm k.sz]
   rw [show j + 1 + i = j + (i + 1) by omega]
   exact this

/-- The cells of what can be read now, side by side. -/
theorem Now.cells {k : K} {w : World} {φ : Col} {p : Path} {j : Nat} {xs : List k.T} {v : Value} (h : Now (fun i => Ow k w φ (p ++ [j + i])) w xs v) :
  ∃ A c news, v = .slice A xs.length c ∧ news.length = xs.length * k.sz ∧ (∀ ad, A = some ad → ∀ i u, news[i]? = some u → w.cell? (ad.add i) = some u) ∧ (A = none → xs = []) ∧ OwEls k w φ p j xs news := by
 obtain ⟨A, c, rfl, hl, hc⟩ := h
 by_cases hn : 0 < xs.length
 ·obtain ⟨ad, rfl, hi⟩ := hc hn
  have hseg : ∀ i (h : i < xs.length), ∃ ds, ds.length = k.sz ∧ Ow k w φ (p ++ [j + i]) xs[i] ds ∧ ((((List.range (xs.length * k.sz)).map fun q => (w.cell? (ad.add q)).getD undef).drop (i * k.sz)).take k.sz) = ds ∧ ∀ t u, ds[t]? = some u → w.cell? (ad.add (i * k.sz + t)) = some u := by
   intro i hi2
   obtain ⟨ds, h1, h2, h3⟩ := hi i hi2
   refine ⟨ds, h1, h2, ?_, h3⟩
   have hle : i * k.sz + k.sz ≤ xs.length * k.sz := by rw [← Nat.succ_mul]; exact Nat.mul_le_mul_right _ hi2
   apply List.ext_getElem
   ·simp [h1]; omega
   ·intro t ht1 ht2
    have := h3 t ds[t] (by simp [ht2])
    simp [this]
  refine ⟨some ad, c, (List.range (xs.length * k.sz)).map fun q => (w.cell? (ad.add q)).getD undef, rfl, by simp, fun ad' e i u hu => ?_, fun e => (nomatch e), OwEls.of_get (by simp) fun i hi2 => ?_⟩
  ·injection e with e; subst e
   have hlt := (List.getElem?_eq_some_iff.1 hu).1
   simp only [List.length_map, List.length_range] at hlt
   have hq : i / k.sz < xs.length := (Nat.div_lt_iff_lt_mul k.sz_pos).2 hlt
   obtain ⟨ds, h1, h2, h3, h4⟩ := hseg (i / k.sz) hq
   have hr : i % k.sz < k.sz := Nat.mod_lt _ k.sz_pos
   have hdm : i / k.sz * k.sz + i % k.sz = i := by rw [Nat.mul_comm]; exact Nat.div_add_mod i k.sz
   have := h4 (i % k.sz) ds[i % k.sz] (by simp [show i % k.sz < ds.length by omega])
   rw [hdm] at this
   rw [List.getElem?_map, List.getElem?_range hlt, Option.map_some, this] at hu
   injection hu with hu
   rw [this, ← hu]; rfl
  ·obtain ⟨ds, h1, h2, h3, h4⟩ := hseg i hi2
   rw [h3]; exact h2
 ·have : xs = [] := List.eq_nil_of_length_eq_zero (by omega)
  subst this
  exact ⟨A, c, [], rfl, by simp, fun ad _ i u hu => by simp at hu, fun _ => rfl, rfl⟩

theorem app_none {P : Program} {w : World} {t ty e : TypeId} {i : TypeInfo} {size : Nat} (ht : P.underlying t = some (.slice e)) (hi : P.info? e = some i) {v : Value} {n c : Nat} {xs : List Value} (hown : owns w 0 e size v n xs) :
  (Builtin.append_ #[t, t] ty #[v, .slice none 0 c]).run P w = .ok v w := by
 rcases hown.2 with ⟨rfl, rfl⟩ | ⟨g, cap, cur, fz, rfl, _, _, _, hnc, _⟩
 ·simp [Builtin.append_, run_underlying ht, sizeOf, typeInfo, hi, Builtin.lenOf, Builtin.firstCells]
 ·simp [Builtin.append_, run_underlying ht, sizeOf, typeInfo, hi, Builtin.lenOf, Builtin.firstCells, hnc, storeCells]

/-- An append's run: the same block, or a new one. -/
theorem app_run {P : Program} {w : World} {t ty e : TypeId} {i : TypeInfo} {z : Value} {size bytes : Nat} (ht : P.underlying t = some (.slice e)) (hi : P.info? e = some i) (hz : i.zero = some z)
  (hsize : i.size = size) (hby : i.bytes = bytes) (hzs : z.cells.size = size) (hsz : 0 < size) {v : Value} {n : Nat} {xs : List Value} (hown : owns w 0 e size v n xs)
  {A : Option Addr} {m c : Nat} {news : List Value} (hl : news.length = m * size) (hnews : ∀ ad, A = some ad → ∀ j u, news[j]? = some u → w.cell? (ad.add j) = some u) (hA : A = none → m = 0) (h1 : ∀ u ∈ news, u.oneCell' = true)
  (h63 : n + m ≤ maxLen) (hbytes : (n + m) * bytes ≤ 140737488355328) :
  ∃ v' w', (Builtin.append_ #[t, t] ty #[v, .slice A m c]).run P w = .ok v' w' ∧ owns w' 0 e size v' (n + m) (xs ++ news) ∧ w.grownBy w' v.ownBlock ∧ (v'.ownBlock = v.ownBlock ∨ v'.ownBlock = some w.heap.size) := by
 subst hsize; subst hby
 have hsmall : n + m ≤ 9223372036854775807 := by simp only [maxLen] at h63; omega
 cases A with
 | none =>
  obtain rfl := hA rfl
  have hn : news = [] := List.eq_nil_of_length_eq_zero (by simpa using hl)
  subst hn
  exact ⟨v, w, app_none ht hi hown, by simpa using hown, ⟨rfl, rfl, rfl, Nat.le_refl _, fun _ _ _ => rfl⟩, .inl rfl⟩
 | some ad =>
  obtain ⟨v', w', hrun, ho, hg, hnil⟩ := run_append_ownM (P := P) w 0 t ty e i z i.size i.bytes ht hi hz rfl rfl hzs hsz v n xs hown ad m c news hl (hnews ad rfl) h1 h63 hbytes (Nat.zero_le _)
  refine ⟨v', w', hrun, ho, hg, ?_⟩
  rcases hown.2 with ⟨rfl, rfl⟩ | ⟨g, cap, cur, fz, rfl, _, hgb, hfz, hnc, hcm, hcs, htake⟩
  ·by_cases hm : m = 0
   ·have := hnil.2 ⟨rfl, hm⟩
    subst this; exact .inl rfl
   ·have hr := run_append_nil (P := P) w t ty e i z ht hi hz ad m c news hl (hnews ad rfl) (by omega) (by omega) (by have hb := hbytes; simp only [Nat.zero_add] at hb; omega)
    rw [hrun] at hr
    injection hr with hr _
    subst hr; exact .inr rfl
  ·by_cases hroom : n + m ≤ cap
   ·have hfit : n * i.size + news.length ≤ cur.size := by rw [hl, hcs, ← Nat.add_mul]; exact Nat.mul_le_mul_right _ hroom
    have hr := run_append_roomM (P := P) w t ty e i ht hi g n cap cur fz hgb hfz.1 ad m c news hl (hnews ad rfl) h1 hroom hfit
    rw [hrun] at hr
    injection hr with hr _
    subst hr; exact .inl rfl
   ·have holds : ∀ j u, xs[j]? = some u → w.cell? ((⟨g, 0, none⟩ : Addr).add j) = some u := owns_cells hown (g := g) rfl
    have hr := run_append_grow (P := P) w t ty e i z ht hi hz ⟨g, 0, none⟩ n cap xs hown.1 holds ad m c news hl (hnews ad rfl) (by omega) (by omega) (growslice_fits (by omega) hbytes)
    rw [hrun] at hr
    injection hr with hr _
    subst hr; exact .inr rfl

end Go.Proofs.YthnfghmjipikhaaGreatDoor.Ev
namespace Go.Proofs.YthnfghmjipikhaaGreatDoor.Ev

theorem flat_keep : ∀ {k : K} {w w' : World} {φ φ' : Col} {p p' : Path} {x : k.T} {cs : List Value}, k.flat = true → Ow k w φ p x cs → Keeps w w' φ φ' → Ow k w' φ' p' x cs
 | .int _, _, _, _, _, _, _, _, _, _, h, _ => h
 | .bool, _, _, _, _, _, _, _, _, _, h, _ => h
 | .fnc _, _, _, _, _, _, _, _, _, _, h, _ => h
 | .str, _, _, _, _, _, _, _, _, _, h, _ => h
 | .rs _ k, _, _, _, _, _, _, _, _, _, h, hk => RoL.keep h k.sz_pos hk fun _ _ hr => Ro.keep hr hk
 | .pa _ k, _, _, _, _, _, _, _, _, _, h, hk => RoP.keep h hk fun _ _ hr => Ro.keep hr hk
 | .sl _ _, _, _, _, _, _, _, _, _, hf, _, _ => by simp [K.flat] at hf
 | .pair a b, _, _, _, _, _, _, _, _, hf, h, hk => by
  simp only [K.flat, Bool.and_eq_true] at hf
  obtain ⟨c0, c1, rfl, h0, h1⟩ := h
  exact ⟨c0, c1, rfl, flat_keep hf.1 h0 hk, flat_keep hf.2 h1 hk⟩

/-- The row that is appended to: its number (none: nil), what it holds, what was read. -/
def destR (cfg : Cfg) (s : St) (e : Nat) (ti : TyI) : Lf → Option (Option Nat × Row × Rds)
 | .nil => some (none, ⟨e, ti.k, [], 0⟩, [])
 | .own id => match s.getR id with
  | some r => some (some id, r, [(.r id, .r r)])
  | none => none
 | .vw id 0 hi => match s.getR id with
  | some r => some (some id, ⟨r.e, r.k, r.xs.take hi, 0⟩, [(.r id, .r r)])
  | none => none
 | _ => none

theorem destR_reads {cfg : Cfg} {s : St} {e : Nat} {ti : TyI} {l : Lf} {o : Option Nat} {row : Row} {rds : Rds} (h : destR cfg s e ti l = some (o, row, rds)) : Reads s rds := by
 cases l with
 | nil => simp only [destR] at h; injection h with h; injection h with _ h; injection h with _ h; subst h; exact Reads.nil _
 | own id =>
  simp only [destR] at h
  split at h
  ·rename_i r er
   injection h with h; injection h with _ h; injection h with _ h; subst h
   intro p hp; rw [List.mem_singleton.1 hp]; exact St.getR_some.1 er
  ·cases h
 | vw id lo hi =>
  cases lo with
  | succ lo => simp [destR] at h
  | zero =>
   simp only [destR] at h
   split at h
   ·rename_i r er
    injection h with h; injection h with _ h; injection h with _ h; subst h
    intro p hp; rw [List.mem_singleton.1 hp]; exact St.getR_some.1 er
   ·cases h
 | int k n => simp [destR] at h
 | bool b => simp [destR] at h
 | str x => simp [destR] at h
 | ro e k xs => simp [destR] at h
 | sub id q off ver => simp [destR] at h
 | ptr b off => simp [destR] at h
 | ept id q off => simp [destR] at h
 | rpt k x off => simp [destR] at h
 | rpa n k x => simp [destR] at h
 | mp _ => simp [destR] at h
 | mpb _ => simp [destR] at h
 | apt n id => simp [destR] at h
 | fn f => simp [destR] at h
 | anyb => simp [destR] at h
 | chk _ _ _ _ _ => simp [destR] at h
 | clo _ _ _ => simp [destR] at h
 | any => simp [destR] at h
 | nilp => simp [destR] at h
 | ext id q off ver p e k zs => simp [destR] at h

def destTg (d : Nat) : Option Nat → Tg
 | none => []
 | some id => [(id, fun q => some (2 * d :: q))]

theorem destR_ok {cfg : Cfg} {s s' : St} {e : Nat} {ti : TyI} {l : Lf} {o : Option Nat} {row : Row} {rds : Rds} (h : destR cfg s e ti l = some (o, row, rds)) {n : Nat} {w0 : World} {φ0 : Gh} {a : Act} {m : Mem}
  (hr : Rel n w0 φ0 s' a m) (hrd : Reads s' rds) {v : Value} (hv : LfC s' m l v) (d : Nat) {φ' : Col} (hk : Keeps m.w m.w m.φ φ') (hm : ∀ id, o = some id → Moves m.w m.w m.φ φ' [2 * id] [2 * d]) :
  OwL (Ow row.k m.w φ') row.e row.k.sz m.w φ' [2 * d] row.xs v := by
 cases l with
 | nil =>
  simp only [destR] at h; injection h with h; injection h with h1 h; injection h with h2 _; subst h2
  simp only [LfC] at hv; subst hv
  exact ⟨[], owns_nil _ _ _ _, fun g hg => by simp [Value.ownBlock] at hg, fun i h => by simp at h⟩
 | own id =>
  simp only [destR] at h
  split at h
  ·rename_i r er
   injection h with h; injection h with h1 h; injection h with h2 h3; subst h1; subst h2; subst h3
   have hg := hrd _ List.mem_cons_self
   rw [hv.2 r hg]
   exact (hr.rw id r hg).move (hm id rfl) hk
  ·cases h
 | vw id lo hi =>
  cases lo with
  | succ lo => simp [destR] at h
  | zero =>
   simp only [destR] at h
   split at h
   ·rename_i r er
    injection h with h; injection h with h1 h; injection h with h2 h3; subst h1; subst h2; subst h3
    have hg := hrd _ List.mem_cons_self
    obtain ⟨_, hh, hv2⟩ := hv.2 r hg
    rw [hv2]
    exact take_ow ((hr.rw id r hg).move (hm id rfl) hk) hh
   ·cases h
 | int k n => simp [destR] at h
 | bool b => simp [destR] at h
 | str x => simp [destR] at h
 | ro e k xs => simp [destR] at h
 | sub id q off ver => simp [destR] at h
 | ptr b off => simp [destR] at h
 | ept id q off => simp [destR] at h
 | rpt k x off => simp [destR] at h
 | rpa n k x => simp [destR] at h
 | mp _ => simp [destR] at h
 | mpb _ => simp [destR] at h
 | apt n id => simp [destR] at h
 | fn f => simp [destR] at h
 | anyb => simp [destR] at h
 | chk _ _ _ _ _ => simp [destR] at h
 | clo _ _ _ => simp [destR] at h
 | any => simp [destR] at h
 | nilp => simp [destR] at h
 | ext id q off ver p e k zs => simp [destR] at h

/-- What is appended: its elements at the row's kind; what was read; the row that is used up, if its elements have rows of their own. -/
def srcR (cfg : Cfg) (s : St) (t : Nat) (k : K) (l : Lf) : Option (List k.T × Rds × Option Nat) :=
 match k.flat with
 | true => match content cfg s t l with
  | some (sl, rds) => match castL sl.k k sl.xs with
   | some ys => some (ys, rds, none)
   | none => none
  | none => none
 | false => match l with
  | .own id => match s.getR id with
   | some r => match castL r.k k r.xs with
    | some ys => some (ys, [(.r id, .r r)], some id)
    | none => none
   | none => none
  | _ => none

def srcTg (d n : Nat) : Option Nat → Tg
 | none => []
 | some id => [(id, fun q => match q with
  | i :: q => some (2 * d :: (n + i) :: q)
  | [] => none)]

theorem srcR_reads {cfg : Cfg} {s : St} {t : Nat} {k : K} {l : Lf} {ys : List k.T} {rds : Rds} {o : Option Nat} (h : srcR cfg s t k l = some (ys, rds, o)) : Reads s rds := by
 unfold srcR at h
 split at h
 ·split at h
  ·rename_i sl rds' ec
   split at h
   ·injection h with h; injection h with _ h; injection h with h _; subst h; exact content_reads ec
   ·cases h
  ·cases h
 ·split at h
  ·split at h
   ·rename_i r er
    split at h
    ·injection h with h; injection h with _ h; injection h with h _; subst h
     intro p hp; rw [List.mem_singleton.1 hp]; exact St.getR_some.1 er
    ·cases h
   ·cases h
  ·cases h

theorem srcR_ok {cfg : Cfg} {s s' : St} {t : Nat} {k : K} {l : Lf} {ys : List k.T} {rds : Rds} {o : Option Nat} (h : srcR cfg s t k l = some (ys, rds, o)) {n : Nat} {w0 : World} {φ0 : Gh} {a : Act} {m : Mem}
  (hr : Rel n w0 φ0 s' a m) (hrd : Reads s' rds) {v : Value} (hv : LfC s' m l v) (d j : Nat) {φ' : Col} (hk : Keeps m.w m.w m.φ φ')
  (hm : ∀ id, o = some id → ∀ i, Moves m.w m.w m.φ φ' [2 * id, i] [2 * d, j + i]) :
  Now (k := k) (fun i => Ow k m.w φ' ([2 * d] ++ [j + i])) m.w ys v := by
 unfold srcR at h
 split at h
 ·rename_i hf
  split at h
  ·rename_i sl rds' ec
   split at h
   ·rename_i ys' hcast
    injection h with h; injection h with h1 h; injection h with h2 h3; subst h1; subst h2; subst h3
    obtain ⟨ek, rfl⟩ := castL_some hcast
    subst ek
    have hnow := content_now ec hf hr hrd hv
    exact hnow.imp fun i x ds hx => flat_keep hf hx hk
   ·cases h
  ·cases h
 ·split at h
  ·rename_i id
   split at h
   ·rename_i r er
    split at h
    ·rename_i ys' hcast
     injection h with h; injection h with h1 h; injection h with h2 h3; subst h1; subst h2; subst h3
     obtain ⟨ek, rfl⟩ := castL_some hcast
     subst ek
     have hg := hrd _ List.mem_cons_self
     rw [hv.2 r hg]
     exact (hr.rw id r hg).now.imp fun i x ds hx => Ow.move hx (hm id rfl i) hk
    ·cases h
   ·cases h
  ·cases h


def apart : Option Nat → Option Nat → Bool
 | some a, some b => !(Nat.beq a b)
 | _, _ => true

def oid : Option Nat → List Nat
 | none => []
 | some i => [i]

def xApp {R : Type} (cfg : Cfg) (s : St) (d t t' : Nat) (x y : Operand) (κ : Ke R) : Option R :=
 match opnd s x, opnd s y, cfg.el t, Nat.beq t t' with
 | some (.one lx, rx), some (.one ly, ry), some e, true => match cfg.ty e with
  | some ti => match destR cfg s e ti lx with
   | some (o1, row, r1) => match srcR cfg s t row.k ly with
    | some (ys, r2, o2) => match Nat.beq row.e e, Nat.beq ti.k.sz row.k.sz, apart o1 o2 with
     | true, true, true => bif decide (row.xs.length + ys.length ≤ 9223372036854775807) then bif decide ((row.xs.length + ys.length) * ti.bytes ≤ 140737488355328) then
       κ ⟨rx ++ ry ++ (r1 ++ r2), (.t d, some (.t (.one (.own d)))) :: (.r d, some (.r ⟨e, row.k, row.xs ++ ys, 0⟩)) :: (oid o1 ++ oid o2).map (fun i => (Loc.r i, (none : Option LV))), [.r d]⟩ else none else none
     | _, _, _ => none
    | none => none
   | none => none
  | none => none
 | _, _, _, _ => none

theorem xApp_ok {R : Type} {P : Program} {cfg : Cfg} (hc : CfgOk P cfg) {s : St} {d t t' : Nat} {x y : Operand} {κ : Ke R} {r : R} (h : xApp cfg s d t t' x y κ = some r) :
  OutE P s (.call { callee := .builtin .append, args := #[x, y], argTypes := #[t, t'] }) d κ r := by
 unfold xApp at h
 split at h
 ·rename_i lx rx ly ry e ex ey et htt
  have htt := Nat.eq_of_beq_eq_true htt
  subst htt
  split at h
  ·rename_i ti eti
   split at h
   ·rename_i o1 row r1 e1
    split at h
    ·rename_i ys r2 o2 e2
     split at h
     ·rename_i he hsz hap
      have he := Nat.eq_of_beq_eq_true he
      have hsz := Nat.eq_of_beq_eq_true hsz
      subst he
      obtain ⟨h63, h⟩ := bif_some h
      obtain ⟨hby, h⟩ := bif_some h
      have h63 := of_decide_eq_true h63
      have hby := of_decide_eq_true hby
      refine ⟨_, h, Reads.app.2 ⟨Reads.app.2 ⟨opnd_reads ex, opnd_reads ey⟩, Reads.app.2 ⟨destR_reads e1, srcR_reads e2⟩⟩, fun n o ho hdst hd w0 φ0 s' a m hr hrd hnew next Q hn => ?_⟩
      have hrdA := Reads.app.1 (Reads.app.1 hrd).1
      have hrdB := Reads.app.1 (Reads.app.1 hrd).2
      obtain ⟨f, z, hi, hs, hb, hz, hzc, _⟩ := hc.info eti
      have hzs : z.cells.size = row.k.sz := by rw [← Array.length_toList, hzc, zc_len, hsz]
      have hids : (destTg d o1 ++ srcTg d row.xs.length o2).map (·.1) = oid o1 ++ oid o2 := by cases o1 <;> cases o2 <;> rfl
      have h1 := hr.drop (destTg d o1 ++ srcTg d row.xs.length o2)
      rw [hids] at h1
      have hk := recol_keeps m.w (destTg d o1 ++ srcTg d row.xs.length o2) m.φ
      have hdest := destR_ok e1 hr hrdB.1 (opnd_ok ex hr hrdA.1) d hk (fun id hid => by
       subst hid
       exact recol_moves (f := fun q => some (2 * d :: q)) (by simp [destTg, lookR]) (fun q => rfl))
      have hsrc := srcR_ok e2 hr hrdB.2 (opnd_ok ey hr hrdA.2) d row.xs.length hk (fun id hid i => by
       subst hid
       refine recol_moves (p := [i]) (f := fun q => match q with
        | i :: q => some (2 * d :: (row.xs.length + i) :: q)
        | [] => none) ?_ (fun q => rfl)
       cases o1 with
       | none => simp [destTg, srcTg, lookR]
       | some id1 =>
        have hne : ¬ id1 = id := by
         simp only [apart, Bool.not_eq_true'] at hap
         intro e; rw [e, Nat.beq_refl] at hap; cases hap
        have hne2 : ¬ 2 * id1 = 2 * id := by omega
        simp only [destTg, srcTg, List.cons_append, List.nil_append, lookR, if_neg hne2, if_true])
      obtain ⟨A, c, news, hyv, hnl, hcell, hA, hnew2⟩ := hsrc.cells
      obtain ⟨inner, hown, hcol, hels⟩ := hdest
      obtain ⟨v', w', hrun, hown', hg, hblk⟩ := app_run (P := P) (ty := o.type) (hc.el et) hi hz (hs.trans hsz) hb hzs row.k.sz_pos hown hnl hcell (fun hA0 => by rw [hA hA0]; rfl) hnew2.one (by simp only [maxLen]; omega) hby
      have hrunO : (execOp a.eval o).run P m.w = .ok (.value v') w' := by
       simp [execOp, ho, hyv, resolve, invoke, builtin, Sem.run_bind]
       rw [hrun]; rfl
      let φ1 := recol (destTg d o1 ++ srcTg d row.xs.length o2) m.φ
      let φ2 : Col := fun b => if v'.ownBlock = some b then some [2 * d] else φ1 b
      have hsame : ∀ b, b < m.w.heap.size → φ1 b ≠ some [2 * d] → w'.heap[b]? = m.w.heap[b]? ∧ φ2 b = φ1 b := by
       intro b hb hne
       have hvb : some b ≠ (a.eval x).ownBlock := fun e => hne (hcol b e.symm)
       refine ⟨hg.block b hb hvb, if_neg fun e => ?_⟩
       rcases hblk with h' | h'
       ·rw [h'] at e; exact hvb e.symm
       ·rw [h'] at e; injection e with e; omega
      have hO : Only m.w w' φ1 φ2 (2 * d) := fun b hb hq => hsame b hb (hq [])
      have hnl : ¬ Live ((oid o1 ++ oid o2).map (fun i => (Loc.r i, (none : Option LV))) ++ s') (.r d) := by
       rintro ⟨l', lv, hg', hm'⟩
       refine hnew (.r d) List.mem_cons_self ⟨l', lv, ?_, hm'⟩
       by_cases hh : ∃ i ∈ oid o1 ++ oid o2, l' = .r i
       ·obtain ⟨i, hi', rfl⟩ := hh
        rw [get_tomb_none hi'] at hg'; cases hg'
       ·rw [get_tomb fun i hi' e => hh ⟨i, hi', e⟩] at hg'; exact hg'
      have hmv : ∀ j, Moves m.w w' φ1 φ2 ([2 * d] ++ [j]) ([2 * d] ++ [j]) := fun j b q hb hlt => by
       obtain ⟨g1, g2⟩ := hsame b hlt (by rw [hb]; simp)
       exact ⟨g1, g2.trans hb⟩
      have hinl := hown.1
      have h2 := h1.only (d := d) hd hnl (row := ⟨row.e, row.k, row.xs ++ ys, 0⟩) (v := v') (w' := w') (φ' := φ2) hO hg.size hg.os hg.tape hg.output (by
       refine ⟨inner ++ news, by rw [List.length_append]; exact hown', fun g hgb => if_pos hgb, fun i hi' => ?_⟩
       by_cases hin : i < row.xs.length
       ·have e3 : (row.xs ++ ys)[i] = row.xs[i] := List.getElem_append_left hin
        have hle : i * row.k.sz + row.k.sz ≤ inner.length := by rw [hinl, ← Nat.succ_mul]; exact Nat.mul_le_mul_right _ hin
        have e4 : ((inner ++ news).drop (i * row.k.sz)).take row.k.sz = (inner.drop (i * row.k.sz)).take row.k.sz := by
         rw [List.drop_append_of_le_length (by omega), List.take_append_of_le_length (by rw [List.length_drop]; omega)]
        simp only [e3, e4]
        exact (hels i hin).move (hmv i) hO.keeps
       ·have hil : i - row.xs.length < ys.length := by
         have := hi'; simp only [List.length_append] at this; omega
        have e3 : (row.xs ++ ys)[i] = ys[i - row.xs.length] := List.getElem_append_right (by omega)
        have e4 : ((inner ++ news).drop (i * row.k.sz)).take row.k.sz = (news.drop ((i - row.xs.length) * row.k.sz)).take row.k.sz := by
         have hq : i * row.k.sz = inner.length + (i - row.xs.length) * row.k.sz := by
          rw [hinl, ← Nat.add_mul]; congr 1; omega
         rw [hq, ← List.drop_drop, List.drop_left]
        simp only [e3, e4]
        have := hnew2.get (i - row.xs.length) hil
        rw [show row.xs.length + (i - row.xs.length) = i by omega] at this
        exact this.move (hmv i) hO.keeps)
      have h3 := h2.put (v := .one (.own d)) (x := v') hd ⟨own_oneCell hown', fun r _ => by simp [upd_same]⟩
      simp only [Oper.wp, hrunO, Oper.upon, hdst]
      exact hn _ _ h3
     ·cases h
    ·cases h
   ·cases h
  ·cases h
 ·cases h

end Go.Proofs.YthnfghmjipikhaaGreatDoor.Ev
namespace Go.Proofs.YthnfghmjipikhaaGreatDoor.Ev

def OutS {R : Type} (P : Program) (s : St) (op : Op) (κ : Ke R) (r : R) : Prop :=
 ∃ δ, κ δ = some r ∧ Reads s δ.rd ∧ ∀ n (o : Oper), o.op = op → o.dst = none → Good P n o δ

/-- A variable in memory is written. -/
theorem Rel.setBox {n : Nat} {w0 : World} {φ0 : Gh} {s : St} {a : Act} {m : Mem} (h : Rel n w0 φ0 s a m) {b : Nat} {c c' : List Lf} (hb : s.get (.b b) = some (.b c)) {w' : World} {cs : List Value}
  (hO : Only m.w w' m.φ m.φ (2 * b + 1)) (hs : m.w.heap.size ≤ w'.heap.size) (os : w'.os = m.w.os) (tp : w'.tape = m.w.tape) (ou : w'.output = m.w.output)
  (hc : All2 (LfC s m) c' cs) (hlive : ∀ l ∈ c', ∀ q ∈ l.men, Live s q)
  (hg : w'.heap[(m.β b).g]? = some (.cells ((m.β b).pre ++ cs ++ (m.β b).post).toArray (m.β b).t (0, 0))) :
  Rel n w0 φ0 ((.b b, some (.b c')) :: s) a ⟨w', m.φ, m.ρ, m.β⟩ := by
 have hget : ∀ l, l ≠ .b b → St.get ((.b b, some (.b c')) :: s) l = s.get l := fun l hl => St.get_cons_ne (Ne.symm hl) _ _
 have hX : Ext s m ((.b b, some (.b c')) :: s) ⟨w', m.φ, m.ρ, m.β⟩ (Live s) := by
  refine ⟨hO.keeps, fun id r' hL hr => ?_, fun b' c0 _ hc0 => ?_, fun q i _ hi => by rwa [hget _ (by simp)] at hi⟩
  ·rw [hget _ (by simp)] at hr
   refine ⟨r', hr, rfl, rfl, rfl, Nat.le_refl _, fun _ hn j v hcell => ?_, fun _ => hO.moves (by omega) []⟩
   obtain ⟨hcol, hlt⟩ := row_block (h.rw id r' hr) hn
   refine (World.cell?_of_block ?_).trans hcell
   rw [add_block]
   exact (hO _ hlt (fun q hq => by rw [hcol] at hq; injection hq with hq; injection hq with hq _; omega)).1
  ·by_cases hbb : b' = b
   ·subst hbb; exact ⟨c, hb, rfl⟩
   ·rw [hget _ (by simpa using hbb)] at hc0; exact ⟨c0, hc0, rfl⟩
 refine h.change (fun i => hget _ (by simp)) hX (fun id r hr => ?_) (fun b' c0 hc0 => ?_) hO.fore hs os tp ou (fun id r _ _ hg => ⟨⟨r, by rwa [hget _ (by simp)] at hg⟩, rfl⟩) (fun b' c' hg => by
  by_cases hbb : b' = b
  ·subst hbb; exact .inl ⟨⟨c, hb⟩, rfl⟩
  ·exact .inl ⟨⟨c', by rwa [hget _ (by simpa using hbb)] at hg⟩, rfl⟩)
 ·rw [hget _ (by simp)] at hr
  exact (h.rw id r hr).move (hO.moves (by omega) []) hO.keeps
 ·by_cases hbb : b' = b
  ·subst hbb
   rw [St.get_cons_same] at hc0
   injection hc0 with hc0; injection hc0 with hc0; subst hc0
   obtain ⟨_, _, _, h5, _⟩ := h.bx b' c hb
   exact ⟨cs, All2.imp (fun l hm x hx => hx.ext (hX.sub fun q hq => hlive l hm q hq)) hc, All2.one hc, h5, hg⟩
  ·rw [hget _ (by simpa using hbb)] at hc0
   obtain ⟨cs', h3, h4, h5, h6⟩ := h.bx b' c0 hc0
   have hlt : (m.β b').g < m.w.heap.size := (Array.getElem?_eq_some_iff.1 h6).1
   obtain ⟨e1, e2⟩ := hO _ hlt (fun q hq => by rw [h5] at hq; injection hq with hq; injection hq with hq _; omega)
   exact ⟨cs', All2.imp (fun l hm x hb => hb.ext (hX.sub fun q hq => ⟨.b b', .b c0, hc0, List.mem_flatMap.2 ⟨l, hm, hq⟩⟩)) h3, h4, h5, e1.trans h6⟩

/-- An element of a row is written. -/
theorem Rel.updRow {n : Nat} {w0 : World} {φ0 : Gh} {s : St} {a : Act} {m : Mem} (h : Rel n w0 φ0 s a m) {id : Nat} {r row : Row} (hrow : s.get (.r id) = some (.r r)) {w' : World}
  (hO : Only m.w w' m.φ m.φ (2 * id)) (hs : m.w.heap.size ≤ w'.heap.size) (os : w'.os = m.w.os) (tp : w'.tape = m.w.tape) (ou : w'.output = m.w.output)
  (hsz : row.k.sz = r.k.sz) (hlen : row.xs.length = r.xs.length) (hver : r.ver < row.ver)
  (ho : OwL (Ow row.k w' m.φ) row.e row.k.sz w' m.φ [2 * id] row.xs (m.ρ id)) :
  Rel n w0 φ0 ((.r id, some (.r row)) :: s) a ⟨w', m.φ, m.ρ, m.β⟩ := by
 have hget : ∀ l, l ≠ .r id → St.get ((.r id, some (.r row)) :: s) l = s.get l := fun l hl => St.get_cons_ne (Ne.symm hl) _ _
 have hX : Ext s m ((.r id, some (.r row)) :: s) ⟨w', m.φ, m.ρ, m.β⟩ (Live s) := by
  refine ⟨hO.keeps, fun id' r' hL hr => ?_, fun b c' _ hc => ⟨c', by rwa [hget _ (by simp)] at hc, rfl⟩, fun q i _ hi => by rwa [hget _ (by simp)] at hi⟩
  by_cases hid : id' = id
  ·subst hid
   rw [St.get_cons_same] at hr
   injection hr with hr; injection hr with hr; subst hr
   exact ⟨r, hrow, rfl, hsz, hlen, Nat.le_of_lt hver, fun e => by omega, fun e => by omega⟩
  ·rw [hget _ (by simpa using hid)] at hr
   refine ⟨r', hr, rfl, rfl, rfl, Nat.le_refl _, fun _ hn j v hcell => ?_, fun _ => hO.moves (by omega) []⟩
   obtain ⟨hcol, hlt⟩ := row_block (h.rw id' r' hr) hn
   refine (World.cell?_of_block ?_).trans hcell
   rw [add_block]
   exact (hO _ hlt (fun q hq => by rw [hcol] at hq; injection hq with hq; injection hq with hq _; omega)).1
 refine h.change (fun i => hget _ (by simp)) hX (fun id' r' hr => ?_) (fun b c hc => ?_) hO.fore hs os tp ou (fun id' r' _ _ hg => by
  by_cases hid : id' = id
  ·subst hid; exact ⟨⟨r, hrow⟩, rfl⟩
  ·exact ⟨⟨r', by rwa [hget _ (by simpa using hid)] at hg⟩, rfl⟩) (fun b c hg => .inl ⟨⟨c, by rwa [hget _ (by simp)] at hg⟩, rfl⟩)
 ·by_cases hid : id' = id
  ·subst hid
   rw [St.get_cons_same] at hr
   injection hr with hr; injection hr with hr; subst hr
   exact ho
  ·rw [hget _ (by simpa using hid)] at hr
   exact (h.rw id' r' hr).move (hO.moves (by omega) []) hO.keeps
 ·rw [hget _ (by simp)] at hc
  obtain ⟨cs', h3, h4, h5, h6⟩ := h.bx b c hc
  have hlt : (m.β b).g < m.w.heap.size := (Array.getElem?_eq_some_iff.1 h6).1
  obtain ⟨e1, e2⟩ := hO _ hlt (fun q hq => by rw [h5] at hq; injection hq with hq; injection hq with hq _; omega)
  exact ⟨cs', All2.imp (fun l hm x hb => hb.ext (hX.sub fun q hq => ⟨.b b, .b c, hc, List.mem_flatMap.2 ⟨l, hm, hq⟩⟩)) h3, h4, h5, e1.trans h6⟩

/-- Cells put into an element's cells from off on. -/
def putL (s : St) : (k : K) → k.T → Nat → List Lf → Path → Option (k.T × List Lf × Mv)
 | .pair a b, x, off, ls, p => match Nat.blt off a.sz with
  | true => match putL s a x.1 off ls (p ++ [0]) with
   | some (x1, [], m1) => some ((x1, x.2), [], m1)
   | some (x1, l :: r, m1) => match putL s b x.2 0 (l :: r) (p ++ [1]) with
    | some (y, r', m2) => some ((x1, y), r', m1 ++ m2)
    | none => none
   | none => none
  | false => match putL s b x.2 (off - a.sz) ls (p ++ [1]) with
   | some (y, r, m1) => some ((x.1, y), r, m1)
   | none => none
 | .int κ, _, 0, ls, p => gath s (.int κ) ls p
 | .bool, _, 0, ls, p => gath s .bool ls p
 | .fnc f, _, 0, ls, p => gath s (.fnc f) ls p
 | .str, _, 0, ls, p => gath s .str ls p
 | .sl e k, _, 0, ls, p => gath s (.sl e k) ls p
 | .rs e k, _, 0, ls, p => gath s (.rs e k) ls p
 | _, _, _, _, _ => none

theorem putL_reads {s : St} : ∀ {k : K} {x : k.T} {off : Nat} {ls : List Lf} {p : Path} {y : k.T} {rest : List Lf} {mv : Mv}, putL s k x off ls p = some (y, rest, mv) → Reads s (mvR mv) := by
 intro k
 induction k with
 | pair a b iha ihb =>
  intro x off ls p y rest mv h
  simp only [putL] at h
  split at h
  ·split at h
   ·rename_i x1 m1 e1
    injection h with h; injection h with _ h; injection h with _ h; subst h; exact iha e1
   ·rename_i x1 l r m1 e1
    split at h
    ·rename_i y2 r' m2 e2
     injection h with h; injection h with _ h; injection h with _ h; subst h
     have := Reads.app.2 ⟨iha e1, ihb e2⟩
     simpa [mvR] using this
    ·cases h
   ·cases h
  ·split at h
   ·rename_i y2 r m1 e1
    injection h with h; injection h with _ h; injection h with _ h; subst h; exact ihb e1
   ·cases h
 | pa n k _ =>
  intro x off ls p y rest mv h
  simp [putL] at h
 | _ =>
  intro x off ls p y rest mv h
  cases off with
  | zero => simp only [putL] at h; exact gath_reads h
  | succ o => simp [putL] at h

theorem putL_ok {s s' : St} {n : Nat} {w0 : World} {φ0 : Gh} {a : Act} {m : Mem} (hr : Rel n w0 φ0 s' a m) {w' : World} {φ' : Col} (hk : Keeps m.w w' m.φ φ') (p0 : Path) :
  ∀ {k : K} {x : k.T} {off : Nat} {ls : List Lf} {p : Path} {y : k.T} {rest : List Lf} {mv : Mv} {cs vs : List Value}, putL s k x off ls p = some (y, rest, mv) → Reads s' (mvR mv) → All2 (LfC s' m) ls vs →
   Does m.w w' m.φ φ' p0 mv → Ow k m.w m.φ (p0 ++ p) x cs → (∀ q, Moves m.w w' m.φ φ' (p0 ++ p ++ q) (p0 ++ p ++ q)) →
   ∃ v0 v1, vs = v0 ++ v1 ∧ off + v0.length ≤ k.sz ∧ Ow k w' φ' (p0 ++ p) y (cs.take off ++ v0 ++ cs.drop (off + v0.length)) ∧ All2 (LfC s' m) rest v1 ∧ (rest ≠ [] → off + v0.length = k.sz) := by
 intro k
 have leaf : ∀ {k : K} {ls : List Lf} {p : Path} {y : k.T} {rest : List Lf} {mv : Mv} {cs vs : List Value}, k.sz = 1 → gath s k ls p = some (y, rest, mv) → Reads s' (mvR mv) → All2 (LfC s' m) ls vs → Does m.w w' m.φ φ' p0 mv → cs.length = 1 →
   ∃ v0 v1, vs = v0 ++ v1 ∧ 0 + v0.length ≤ k.sz ∧ Ow k w' φ' (p0 ++ p) y (cs.take 0 ++ v0 ++ cs.drop (0 + v0.length)) ∧ All2 (LfC s' m) rest v1 ∧ (rest ≠ [] → 0 + v0.length = k.sz) := by
  intro k ls p y rest mv cs vs hsz h hrd hl hd hcl
  obtain ⟨c0, c1, e, ho, hrest⟩ := gath_ok hr hk p0 h hrd hl hd
  have h1 := ho.len
  refine ⟨c0, c1, e, by rw [h1]; omega, ?_, hrest, fun _ => by rw [h1]; omega⟩
  rw [List.take_zero, List.nil_append, Nat.zero_add, h1, hsz, List.drop_of_length_le (by omega), List.append_nil]
  exact ho
 induction k with
 | pair ka kb iha ihb =>
  intro x off ls p y rest mv cs vs h hrd hl hd how hm
  obtain ⟨c0, c1, rfl, ho0, ho1⟩ := how
  rw [List.append_assoc] at ho0 ho1
  have hm0 : ∀ q, Moves m.w w' m.φ φ' (p0 ++ (p ++ [0]) ++ q) (p0 ++ (p ++ [0]) ++ q) := fun q => by
   have := hm ([0] ++ q); simpa [List.append_assoc] using this
  have hm1 : ∀ q, Moves m.w w' m.φ φ' (p0 ++ (p ++ [1]) ++ q) (p0 ++ (p ++ [1]) ++ q) := fun q => by
   have := hm ([1] ++ q); simpa [List.append_assoc] using this
  have l0 := ho0.len
  have l1 := ho1.len
  simp only [putL] at h
  split at h
  ·rename_i hlt
   have hlt := blt_iff.1 hlt
   split at h
   ·rename_i x1 m1 e1
    injection h with h; injection h with h1 h; injection h with h2 h3; subst h1; subst h2; subst h3
    obtain ⟨v0, v1, e, hle, ho, hrest, _⟩ := iha e1 hrd hl hd ho0 hm0
    have hv1 : v1 = [] := by cases v1 with
     | nil => rfl
     | cons _ _ => exact hrest.elim
    subst hv1
    refine ⟨v0, [], e, by simp only [K.sz]; omega, ⟨_, _, ?_, by rw [List.append_assoc]; exact ho, by rw [List.append_assoc]; exact Ow.move ho1 (by simpa using hm1 []) hk⟩, trivial, fun h => absurd rfl h⟩
    rw [List.take_append_of_le_length (by omega), List.drop_append_of_le_length (by omega)]
    simp
   ·rename_i x1 l r m1 e1
    split at h
    ·rename_i y2 r' m2 e2
     injection h with h; injection h with h1 h; injection h with h2 h3; subst h1; subst h2; subst h3
     have hrd' : Reads s' (mvR m1) ∧ Reads s' (mvR m2) := by rw [← Reads.app]; simpa [mvR] using hrd
     obtain ⟨v0, v1, e, hle, ho, hrest, hfull⟩ := iha e1 hrd'.1 hl (fun v hv => hd v (List.mem_append_left _ hv)) ho0 hm0
     obtain ⟨u0, u1, e', hle', ho', hrest', hfull'⟩ := ihb e2 hrd'.2 hrest (fun v hv => hd v (List.mem_append_right _ hv)) ho1 hm1
     subst e'
     subst e
     have hfull := hfull (by simp)
     refine ⟨v0 ++ u0, u1, by simp, by simp only [K.sz, List.length_append]; omega, ⟨_, _, ?_, by rw [List.append_assoc]; exact ho, by rw [List.append_assoc]; exact ho'⟩, hrest', fun hne => by
      have := hfull' hne; simp only [K.sz, List.length_append]; omega⟩
     have e1 : c0.drop (off + v0.length) = [] := List.drop_of_length_le (by omega)
     have e2 : (c0 ++ c1).drop (off + (v0 ++ u0).length) = c1.drop (0 + u0.length) := by
      rw [List.drop_append, List.drop_of_length_le (by simp only [List.length_append]; omega), List.nil_append]
      congr 1; simp only [List.length_append]; omega
     rw [List.take_append_of_le_length (by omega), e1, e2]
     simp
    ·cases h
   ·cases h
  ·rename_i hge
   have hge := blt_false.1 hge
   split at h
   ·rename_i y2 r m1 e1
    injection h with h; injection h with h1 h; injection h with h2 h3; subst h1; subst h2; subst h3
    obtain ⟨v0, v1, e, hle, ho, hrest, hfull⟩ := ihb e1 hrd hl hd ho1 hm1
    refine ⟨v0, v1, e, by simp only [K.sz]; omega, ⟨_, _, ?_, by rw [List.append_assoc]; exact Ow.move ho0 (by simpa using hm0 []) hk, by rw [List.append_assoc]; exact ho⟩, hrest, fun hne => by have := hfull hne; simp only [K.sz]; omega⟩
    rw [List.take_append, List.drop_append, l0, List.take_of_length_le (by omega), List.drop_of_length_le (by omega)]
    simp only [List.nil_append, List.append_assoc]
    congr 3
    congr 1; omega
   ·cases h
 | int κ =>
  intro x off ls p y rest mv cs vs h hrd hl hd how hm
  cases off with
  | zero => exact leaf rfl (by simpa only [putL] using h) hrd hl hd how.len
  | succ o => simp [putL] at h
 | fnc f =>
  intro x off ls p y rest mv cs vs h hrd hl hd how hm
  cases off with
  | zero => exact leaf rfl (by simpa only [putL] using h) hrd hl hd how.len
  | succ o => simp [putL] at h
 | bool =>
  intro x off ls p y rest mv cs vs h hrd hl hd how hm
  cases off with
  | zero => exact leaf rfl (by simpa only [putL] using h) hrd hl hd how.len
  | succ o => simp [putL] at h
 | str =>
  intro x off ls p y rest mv cs vs h hrd hl hd how hm
  cases off with
  | zero => exact leaf rfl (by simpa only [putL] using h) hrd hl hd how.len
  | succ o => simp [putL] at h
 | sl e k _ =>
  intro x off ls p y rest mv cs vs h hrd hl hd how hm
  cases off with
  | zero => exact leaf rfl (by simpa only [putL] using h) hrd hl hd how.len
  | succ o => simp [putL] at h
 | pa n k _ =>
  intro x off ls p y rest mv cs vs h hrd hl hd how hm
  simp [putL] at h
 | rs e k _ =>
  intro x off ls p y rest mv cs vs h hrd hl hd how hm
  cases off with
  | zero => exact leaf rfl (by simpa only [putL] using h) hrd hl hd how.len
  | succ o => simp [putL] at h

end Go.Proofs.YthnfghmjipikhaaGreatDoor.Ev
namespace Go.Proofs.YthnfghmjipikhaaGreatDoor.Ev

/-- A stretch put into a list. -/
def spl {α : Type} (L : List α) (o : Nat) (V : List α) : List α := L.take o ++ V ++ L.drop (o + V.length)
theorem spl_len {α : Type} {L V : List α} {o : Nat} (h : o + V.length ≤ L.length) : (spl L o V).length = L.length := by
 simp only [spl, List.length_append, List.length_take, List.length_drop]; omega
theorem spl_get {α : Type} {L V : List α} {o : Nat} (h : o + V.length ≤ L.length) (q : Nat) : (spl L o V)[q]? = if q < o then L[q]? else if q < o + V.length then V[q - o]? else L[q]? := by
 have h1 : (L.take o).length = o := by rw [List.length_take]; omega
 by_cases c1 : q < o
 ·rw [if_pos c1, spl, List.append_assoc, List.getElem?_append_left (by rw [h1]; exact c1), List.getElem?_take_of_lt c1]
 ·rw [if_neg c1, spl, List.append_assoc, List.getElem?_append_right (by omega), h1]
  by_cases c2 : q < o + V.length
  ·rw [if_pos c2, List.getElem?_append_left (by omega)]
  ·rw [if_neg c2, List.getElem?_append_right (by omega), List.getElem?_drop]
   congr 1; omega
theorem spl_mid {α : Type} {A B C V : List α} {o : Nat} (h : o + V.length ≤ B.length) : spl (A ++ B ++ C) (A.length + o) V = A ++ spl B o V ++ C := by
 have hl := spl_len h
 have h' : A.length + o + V.length ≤ (A ++ B ++ C).length := by simp only [List.length_append]; omega
 apply List.ext_getElem?
 intro q
 rw [spl_get h', List.append_assoc A B C, List.append_assoc A (spl B o V) C]
 simp only [List.getElem?_append, hl, spl_get h]
 by_cases c1 : q < A.length
 ·simp [c1, show q < A.length + o by omega]
 ·simp only [c1, if_false]
  by_cases c2 : q - A.length < B.length
  ·simp only [c2, if_true]
   by_cases c3 : q < A.length + o
   ·simp only [c3, if_true, show q - A.length < o by omega]
   ·simp only [c3, if_false, show ¬ q - A.length < o by omega]
    by_cases c4 : q < A.length + o + V.length
    ·simp only [c4, if_true, show q - A.length < o + V.length by omega]; congr 1; omega
    ·simp only [c4, if_false, show ¬ q - A.length < o + V.length by omega]
  ·simp only [c2, if_false, show ¬ q < A.length + o by omega, show ¬ q < A.length + o + V.length by omega]
theorem spl_take {α : Type} {L V : List α} {o n : Nat} (h : o + V.length ≤ n) (hn : n ≤ L.length) : (spl L o V).take n = spl (L.take n) o V := by
 have hl : o + V.length ≤ (L.take n).length := by rw [List.length_take]; omega
 apply List.ext_getElem?
 intro q
 rw [List.getElem?_take, spl_get hl, spl_get (by omega)]
 simp only [List.getElem?_take]
 by_cases c : q < n
 ·simp [c]
 ·simp only [c, if_false]
  rw [if_neg (by omega), if_neg (by omega)]
theorem spl_seg {α : Type} {L V : List α} {sz i off : Nat} (h : off + V.length ≤ sz) (hi : i * sz + sz ≤ L.length) : ((spl L (i * sz + off) V).drop (i * sz)).take sz = spl ((L.drop (i * sz)).take sz) off V := by
 have hl : off + V.length ≤ ((L.drop (i * sz)).take sz).length := by rw [List.length_take, List.length_drop]; omega
 apply List.ext_getElem?
 intro q
 rw [List.getElem?_take, spl_get hl, List.getElem?_drop, spl_get (by omega)]
 simp only [List.getElem?_take, List.getElem?_drop]
 by_cases c : q < sz
 ·simp only [c, if_true]
  by_cases c1 : q < off
  ·rw [if_pos c1, if_pos (by omega)]
  ·rw [if_neg c1, if_neg (by omega)]
   by_cases c2 : q < off + V.length
   ·rw [if_pos c2, if_pos (by omega)]; congr 1; omega
   ·rw [if_neg c2, if_neg (by omega)]
 ·simp only [c, if_false]
  rw [if_neg (by omega), if_neg (by omega)]
theorem spl_other {α : Type} {L V : List α} {sz i j off : Nat} (h : off + V.length ≤ sz) (hi : i * sz + sz ≤ L.length) (hij : j ≠ i) : ((spl L (i * sz + off) V).drop (j * sz)).take sz = (L.drop (j * sz)).take sz := by
 apply List.ext_getElem?
 intro q
 rw [List.getElem?_take, List.getElem?_drop, spl_get (by omega), List.getElem?_take, List.getElem?_drop]
 by_cases c : q < sz
 ·simp only [c, if_true]
  have : j * sz + sz ≤ i * sz ∨ i * sz + sz ≤ j * sz := by
   rcases Nat.lt_or_gt_of_ne hij with hlt | hlt
   ·exact .inl (by rw [← Nat.succ_mul]; exact Nat.mul_le_mul_right _ hlt)
   ·exact .inr (by rw [← Nat.succ_mul]; exact Nat.mul_le_mul_right _ hlt)
  rcases this with hh | hh
  ·rw [if_pos (by omega)]
  ·rw [if_neg (by omega), if_neg (by omega)]
 ·simp only [c, if_false]

theorem run_storeVar {P : Program} {cfg : Cfg} (hc : CfgOk P cfg) {t : Nat} {ti : TyI} (ht : cfg.ty t = some ti) {w : World} {g o T : Nat} {cur : Array Value} {cs : List Value} {v : Value} (hv : v.cells = cs.toArray) (hl : cs.length = ti.k.sz)
  {fz : Nat × Nat} (hg : w.heap[g]? = some (.cells cur T fz)) (hfz : Thawed cur.size fz) (hfit : o + cs.length ≤ cur.size) (h1 : ∀ u ∈ cs, u.oneCell' = true) :
  (storeVar t ⟨g, o, none⟩ v).run P w = .ok () (w.setRow g (cur.toList.take o ++ cs ++ cur.toList.drop (o + cs.length)).toArray) := by
 obtain ⟨f, z, hi, hs, _⟩ := hc.info ht
 have hst := run_storeCells_atM P g o T fz cs 0 cur w hg hfz (by simpa using hfit) h1
 simp only [Nat.add_zero] at hst
 have hne : ¬ (v.cells.size ≠ ti.k.sz) := by rw [hv]; simp [hl]
 simp only [storeVar, Sem.run_bind, run_size hi, hs, Result.andThen_ok, if_neg hne, Sem.run_pure]
 rw [hv]; exact hst

theorem setRow_only {w : World} {φ : Col} {g r : Nat} (cells : Array Value) (hφ : ∃ q, φ g = some (r :: q)) : Only w (w.setRow g cells) φ φ r := by
 intro b hb hq
 obtain ⟨q, hφ⟩ := hφ
 have hne : b ≠ g := fun e => hq q (by rw [e]; exact hφ)
 exact ⟨setRow_other w g b _ hne, rfl⟩

def xStore {R : Type} (cfg : Cfg) (s : St) (t : Nat) (x y : Operand) (κ : Ke R) : Option R :=
 match opnd s x, opnd s y, cfg.ty t with
 | some (.one l, rx), some (v, ry), some ti => match avL v with
  | some ls => match Nat.beq ls.length ti.k.sz with
   | true => match l with
    | .ptr b off => match s.getB b with
     | some c => match Nat.ble (off + ls.length) c.length with
      | true => κ ⟨rx ++ ry ++ [(.b b, .b c)], [(.b b, some (.b (c.take off ++ ls ++ c.drop (off + ls.length))))], []⟩
      | false => none
     | none => none
    | .ept id q off => match s.getR id, s.getX q with
     | some r, some i => match putL s r.k (rd r.k r.xs i) off ls [] with
      | some (y, [], mv) => match nodupB (mv.map (·.1)), (mv.map (·.1)).any (Nat.beq id) with
       | true, false => κ ⟨rx ++ ry ++ [(.r id, .r r), (.x q, .x i)] ++ mvR mv, (.r id, some (.r ⟨r.e, r.k, r.xs.set i.toNat y, r.ver + 1⟩)) :: (mv.map (·.1)).map (fun i => (Loc.r i, (none : Option LV))), []⟩
       | _, _ => none
      | _ => none
     | _, _ => none
    | _ => none
   | false => none
  | none => none
 | _, _, _ => none

theorem xStore_ok {R : Type} {P : Program} {cfg : Cfg} (hc : CfgOk P cfg) {s : St} {t : Nat} {x y : Operand} {κ : Ke R} {r : R} (h : xStore cfg s t x y κ = some r) : OutS P s (.store t x y) κ r := by
 unfold xStore at h
 split at h
 ·rename_i l rx v ry ti ex ey et
  split at h
  ·rename_i ls el
   split at h
   ·rename_i hlen
    have hlen := Nat.eq_of_beq_eq_true hlen
    have hrun : ∀ (a : Act) (w w' : World) (oo : Oper) (ad : Addr), oo.op = .store t x y → a.eval x = .pointer (some ad) → (storeVar t ad (a.eval y)).run P w = .ok () w' → (execOp a.eval oo).run P w = .ok .skip w' := by
     intro a w w' oo ad ho hx hy
     simp [execOp, ho, hx, Instr.storeAt, Instr.sureAddr, Sem.run_bind, hy]
    split at h
    ·rename_i b off
     split at h
     ·rename_i c ec
      split at h
      ·rename_i hfit
       have hfit := Nat.le_of_ble_eq_true hfit
       refine ⟨_, h, Reads.app.2 ⟨Reads.app.2 ⟨opnd_reads ex, opnd_reads ey⟩, fun p hp => by rw [List.mem_singleton.1 hp]; exact St.getB_some.1 ec⟩, fun n o ho hdst w0 φ0 s' a m hr hrd hnew next Q hn => ?_⟩
       have hrdA := Reads.app.1 (Reads.app.1 hrd).1
       have hb := (Reads.app.1 hrd).2 (.b b, .b c) (by simp)
       have hx := (opnd_ok ex hr hrdA.1).2 c hb
       obtain ⟨vs, hvs, hl⟩ := av_cells el (opnd_ok ey hr hrdA.2)
       obtain ⟨cs, hcs, h1, hcol, hg⟩ := hr.bx b c hb
       have hvl := hl.len
       have hcl := hcs.len
       have hst := run_storeVar (P := P) hc et (o := (m.β b).pre.length + off) hvs (by rw [← hvl]; exact hlen) hg (.inl rfl) (by simp; omega) (All2.one hl)
       have e1 : (((m.β b).pre ++ cs ++ (m.β b).post).toArray.toList.take ((m.β b).pre.length + off) ++ vs ++ ((m.β b).pre ++ cs ++ (m.β b).post).toArray.toList.drop ((m.β b).pre.length + off + vs.length)) =
         (m.β b).pre ++ (cs.take off ++ vs ++ cs.drop (off + ls.length)) ++ (m.β b).post := by
        rw [hvl]; exact spl_mid (by omega)
       rw [e1] at hst
       have h2 := hr.setBox (c' := c.take off ++ ls ++ c.drop (off + ls.length)) (cs := cs.take off ++ vs ++ cs.drop (off + ls.length)) hb (w' := m.w.setRow (m.β b).g ((m.β b).pre ++ (cs.take off ++ vs ++ cs.drop (off + ls.length)) ++ (m.β b).post).toArray)
        (setRow_only _ ⟨[], hcol⟩) (by simp) rfl rfl rfl (((hcs.take off).app hl).app (hcs.drop _)) (fun l' hl' q hq => by
         rcases List.mem_append.1 hl' with hl' | hl'
         ·rcases List.mem_append.1 hl' with hl' | hl'
          ·exact ⟨.b b, .b c, hb, List.mem_flatMap.2 ⟨l', List.mem_of_mem_take hl', hq⟩⟩
          ·exact opnd_live ey hrdA.2 q (avL_men el l' hl' q hq)
         ·exact ⟨.b b, .b c, hb, List.mem_flatMap.2 ⟨l', List.mem_of_mem_drop hl', hq⟩⟩) (setRow_heap m.w _ _ _ _ _ hg)
       have hrun' := hrun a m.w _ o _ ho hx hst
       simp only [Oper.wp, hrun', Oper.upon, hdst]
       exact hn _ _ h2
      ·cases h
     ·cases h
    ·rename_i id q off
     split at h
     ·rename_i row i er ei
      split at h
      ·rename_i yy mv ep
       split at h
       ·rename_i hnd hni
        refine ⟨_, h, Reads.app.2 ⟨Reads.app.2 ⟨Reads.app.2 ⟨opnd_reads ex, opnd_reads ey⟩, fun p hp => ?_⟩, putL_reads ep⟩, fun n o ho hdst w0 φ0 s' a m hr hrd hnew next Q hn => ?_⟩
        ·simp only [List.mem_cons, List.not_mem_nil, or_false] at hp
         rcases hp with rfl | rfl
         ·exact St.getR_some.1 er
         ·exact St.getX_some.1 ei
        ·have hrdM := (Reads.app.1 hrd).2
         have hrd1 := Reads.app.1 (Reads.app.1 hrd).1
         have hrdA := Reads.app.1 hrd1.1
         have hrow := hrd1.2 (.r id, .r row) (by simp)
         have hix := hrd1.2 (.x q, .x i) (by simp)
         obtain ⟨hx1, hx2, hx⟩ := (opnd_ok ex hr hrdA.1).2 row i hrow hix
         obtain ⟨vs, hvs, hl⟩ := av_cells el (opnd_ok ey hr hrdA.2)
         have hvl := hl.len
         obtain ⟨inner, hown, hcol, hels⟩ := hr.rw id row hrow
         have hnm : id ∉ mv.map (·.1) := by
          intro hh
          have := List.any_eq_false.1 hni id hh
          simp at this
         let tg := tgOf [2 * id, i.toNat] mv
         let φ1 := recol tg m.φ
         have hother : ∀ p, Moves m.w m.w m.φ φ1 (2 * id :: p) (2 * id :: p) := recol_other (lookR_none fun v hv e => hnm (by
          have : v.1 = id := by omega
          rw [← this, ← tgOf_ids [2 * id, i.toNat]]
          exact List.mem_map.2 ⟨v, hv, rfl⟩))
         rcases hown.2 with ⟨e0, hn0⟩ | ⟨g, cap, cur, fz, e0, _, hg, hfz, hnc, hcap, hcs, ht⟩
         ·omega
         ·have hcolg := hcol g (by rw [e0]; rfl)
          have hinl := hown.1
          have hi2 : i.toNat * row.k.sz + row.k.sz ≤ inner.length := by rw [hinl, ← Nat.succ_mul]; exact Nat.mul_le_mul_right _ hx2
          have how := hels i.toNat hx2
          rw [← rd_eq hx2] at how
          let w' := m.w.setRow g (cur.toList.take (i.toNat * row.k.sz + off) ++ vs ++ cur.toList.drop (i.toNat * row.k.sz + off + vs.length)).toArray
          have hb' : ∀ b, b ≠ g → w'.heap[b]? = m.w.heap[b]? := fun b hb => setRow_other m.w g b _ hb
          have hne : ∀ b r' q', φ1 b = some (r' :: q') → (r' ≠ 2 * id ∨ q' ≠ []) → b ≠ g := by
           intro b r' q' hb hne e
           subst e
           have := (hother [] b [] hcolg (Array.getElem?_eq_some_iff.1 hg).1).2
           rw [hb] at this
           injection this with this
           injection this with h1 h2
           rcases hne with hne | hne
           ·exact hne h1
           ·exact hne h2
          have hk' : Keeps m.w w' m.φ φ1 := fun b hb hlt => ⟨hb' b (fun e => by rw [e, hcolg] at hb; cases hb), (recol_keeps m.w tg m.φ b hb hlt).2⟩
          have hdo : Does m.w w' m.φ φ1 [2 * id, i.toNat] mv := by
           have h0 := does_recol (w := m.w) (φ := m.φ) (p0 := [2 * id, i.toNat]) hnd
           intro v hv
           have hbne : ∀ b q', m.φ b = some ([2 * v.1] ++ q') → b ≠ g := by
            intro b q' hb e
            rw [e, hcolg] at hb
            injection hb with hb
            injection hb with hb _
            exact hnm (by rw [show id = v.1 by omega]; exact List.mem_map.2 ⟨v, hv, rfl⟩)
           have hv0 := h0 v hv
           cases hp : v.2.1 with
           | some p => simp only [hp] at hv0 ⊢; exact fun b q' hb hlt => ⟨hb' b (hbne b q' hb), (hv0 b q' hb hlt).2⟩
           | none => simp only [hp] at hv0 ⊢; exact fun b q' hb hlt => ⟨hb' b (hbne b q' hb), (hv0 b q' hb hlt).2⟩
          have hmv : ∀ p, p ≠ [] → Moves m.w w' m.φ φ1 (2 * id :: p) (2 * id :: p) := by
           intro p hp b q' hb hlt
           have h0 := (hother p b q' hb hlt).2
           exact ⟨hb' b (hne b (2 * id) (p ++ q') h0 (.inr (by simp [hp]))), h0⟩
          obtain ⟨v0, v1, hv01, hle, hnew', hrest, _⟩ := putL_ok hr hk' [2 * id, i.toNat] ep hrdM hl hdo (cs := (inner.drop (i.toNat * row.k.sz)).take row.k.sz) (by simpa using how) (fun q' => by
           have := hmv (i.toNat :: q') (by simp)
           simpa using this)
          have hv1 : v1 = [] := by cases v1 with
           | nil => rfl
           | cons _ _ => exact hrest.elim
          subst hv1
          rw [List.append_nil] at hv01
          subst hv01
          have hcurl : cur.toList.length = cap * row.k.sz := by rw [Array.length_toList]; exact hcs
          have hcapl : row.xs.length * row.k.sz ≤ cap * row.k.sz := Nat.mul_le_mul_right _ hnc
          have hst := run_storeVar (P := P) hc et (o := i.toNat * row.k.sz + off) hvs (by rw [← hvl]; exact hlen) hg hfz.1 (by rw [← Array.length_toList, hcurl]; omega) (All2.one hl)
          rw [e0, rowAddr_slice, add_plain, Nat.zero_add] at hx
          have hrun' := hrun a m.w _ o _ ho hx hst
          have h1 := hr.drop tg
          rw [show tg.map (·.1) = mv.map (·.1) from tgOf_ids _ _] at h1
          have hrow1 : St.get ((mv.map (·.1)).map (fun i => (Loc.r i, (none : Option LV))) ++ s') (.r id) = some (.r row) := by
           rw [get_tomb fun j hj e => hnm (by injection e with e; rw [e]; exact hj)]; exact hrow
          have h2 := h1.updRow (w' := w') hrow1 (row := ⟨row.e, row.k, row.xs.set i.toNat yy, row.ver + 1⟩) (by
            intro b hb hq
            have hbg : b ≠ g := fun e => hq [] (by rw [e]; exact (hother [] g [] hcolg (Array.getElem?_eq_some_iff.1 hg).1).2)
            exact ⟨hb' b hbg, rfl⟩) (by simp [w']) rfl rfl rfl rfl (by simp) (by simp) (by
           refine ⟨inner.take (i.toNat * row.k.sz + off) ++ vs ++ inner.drop (i.toNat * row.k.sz + off + vs.length), ⟨?_, .inr ⟨g, cap, _, fz, ?_, Nat.zero_le _, setRow_heap m.w g cur _ row.e _ hg, ?_, ?_, hcap, ?_, ?_⟩⟩, fun g' hg' => ?_, fun j hj => ?_⟩
           ·simp only [List.length_append, List.length_take, List.length_drop, List.length_set]; omega
           ·simpa using e0
           ·rw [show (cur.toList.take (i.toNat * row.k.sz + off) ++ vs ++ cur.toList.drop (i.toNat * row.k.sz + off + vs.length)).toArray.size = cur.size by
             simp only [List.size_toArray, List.length_append, List.length_take, List.length_drop]; omega]
            exact hfz
           ·simpa using hnc
           ·simp only [List.size_toArray, List.length_append, List.length_take, List.length_drop]; omega
           ·simp only [List.length_set]
            rw [← ht]
            exact spl_take (o := i.toNat * row.k.sz + off) (by have := ht ▸ hinl; omega) (by rw [hcurl]; exact hcapl)
           ·have : g' = g := by
             rw [e0] at hg'; simp only [Value.ownBlock] at hg'; injection hg' with hg'; exact hg'.symm
            subst this
            exact (hother [] g' [] hcolg (Array.getElem?_eq_some_iff.1 hg).1).2
           ·simp only [List.length_set] at hj
            by_cases hji : j = i.toNat
            ·subst hji
             have e5 : (row.xs.set i.toNat yy)[i.toNat]'(by simpa using hj) = yy := List.getElem_set_self _
             simp only [e5]
             have e6 := spl_seg (L := inner) (V := vs) (off := off) hle hi2
             simp only [spl] at e6
             rw [e6]
             exact hnew'
            ·have e5 : (row.xs.set i.toNat yy)[j]'(by simpa using hj) = row.xs[j] := List.getElem_set_ne (Ne.symm hji) _
             simp only [e5]
             have e6 := spl_other (L := inner) (V := vs) (off := off) (j := j) hle hi2 hji
             simp only [spl] at e6
             rw [e6]
             exact (hels j hj).move (hmv [j] (by simp)) hk')
          simp only [Oper.wp, hrun', Oper.upon, hdst]
          exact hn _ _ h2
       ·cases h
      ·cases h
     ·cases h
    ·cases h
   ·cases h
  ·cases h
 ·cases h

end Go.Proofs.YthnfghmjipikhaaGreatDoor.Ev
namespace Go.Proofs.YthnfghmjipikhaaGreatDoor.Ev

/-- Parameters: a value (g: a struct; keep: its rows are handed back, written), or a variable's address. -/
inductive PK where
 | val (g : Bool) (k : K) (keep : Bool)
 | ptr (k : K)

/-- Results: a value, or the address of a new variable. -/
inductive RK where
 | val (g : Bool) (k : K)
 | new (k : K)

@[reducible] def PK.k : PK → K
 | .val _ k _ => k
 | .ptr k => k
@[reducible] def RK.k : RK → K
 | .val _ k => k
 | .new k => k

@[reducible] def Ts : List K → Type
 | [] => Unit
 | k :: ks => k.T × Ts ks

@[reducible] def ins : List PK → List K
 | [] => []
 | p :: ps => p.k :: ins ps
@[reducible] def kk : List PK → List K
 | [] => []
 | .val _ k true :: ps => k :: kk ps
 | .val _ _ false :: ps => kk ps
 | .ptr k :: ps => k :: kk ps
@[reducible] def outs : List RK → List PK → List K
 | [], ps => kk ps
 | r :: rs, ps => r.k :: outs rs ps

/-- Cells of which each slice's row has a root of its own: base + its place. -/
def LvC (w : World) (φ : Col) : Nat → (k : K) → k.T → List Value → Prop
 | _, .int κ, n, cs => cs = [.int κ n]
 | _, .bool, b, cs => cs = [.bool b]
 | _, .fnc f, _, cs => cs = [fV f]
 | _, .str, s, cs => cs = [.string s]
 | base, .sl e k, xs, cs => ∃ v, cs = [v] ∧ OwL (Ow k w φ) e k.sz w φ [2 * base] xs v
 | _, .rs _ k, xs, cs => RoL (Ro k w φ) k.sz w φ xs cs
 | _, .pa n k, xs, cs => RoP (Ro k w φ) n k.sz w φ xs cs
 | base, .pair a b, x, cs => ∃ c0 c1, cs = c0 ++ c1 ∧ LvC w φ base a x.1 c0 ∧ LvC w φ (base + a.sz) b x.2 c1

theorem LvC.len {w : World} {φ : Col} : ∀ {base : Nat} {k : K} {x : k.T} {cs : List Value}, LvC w φ base k x cs → cs.length = k.sz
 | _, .int _, _, _, h => by simp only [LvC] at h; subst h; rfl
 | _, .bool, _, _, h => by simp only [LvC] at h; subst h; rfl
 | _, .fnc _, _, _, h => by simp only [LvC] at h; subst h; rfl
 | _, .str, _, _, h => by simp only [LvC] at h; subst h; rfl
 | _, .sl _ _, _, _, h => by obtain ⟨v, rfl, _⟩ := h; rfl
 | _, .rs _ _, _, _, h => by obtain ⟨A, c, rfl, _⟩ := h; rfl
 | _, .pa _ _, _, _, h => by rcases h with ⟨rfl, _⟩ | ⟨A, rfl, _⟩ <;> rfl
 | _, .pair a b, _, _, h => by
  obtain ⟨c0, c1, rfl, h0, h1⟩ := h
  rw [List.length_append, LvC.len h0, LvC.len h1]; rfl

theorem LvC.one {w : World} {φ : Col} : ∀ {base : Nat} {k : K} {x : k.T} {cs : List Value}, LvC w φ base k x cs → ∀ u ∈ cs, u.oneCell' = true
 | _, .int _, _, _, h => by simp only [LvC] at h; subst h; intro u hu; rw [List.mem_singleton.1 hu]; rfl
 | _, .bool, _, _, h => by simp only [LvC] at h; subst h; intro u hu; rw [List.mem_singleton.1 hu]; rfl
 | _, .fnc f, _, _, h => by simp only [LvC] at h; subst h; intro u hu; rw [List.mem_singleton.1 hu]; exact fV_one f
 | _, .str, _, _, h => by simp only [LvC] at h; subst h; intro u hu; rw [List.mem_singleton.1 hu]; rfl
 | _, .sl _ _, _, _, h => by obtain ⟨v, rfl, inner, ho, _⟩ := h; intro u hu; rw [List.mem_singleton.1 hu]; exact own_oneCell ho
 | _, .rs _ _, _, _, h => by obtain ⟨A, c, rfl, _⟩ := h; intro u hu; rw [List.mem_singleton.1 hu]; rfl
 | _, .pa _ _, _, _, h => by rcases h with ⟨rfl, _⟩ | ⟨A, rfl, _⟩ <;> (intro u hu; rw [List.mem_singleton.1 hu]; rfl)
 | _, .pair a b, _, _, h => by
  obtain ⟨c0, c1, rfl, h0, h1⟩ := h
  intro u hu
  rcases List.mem_append.1 hu with hu | hu
  ·exact LvC.one h0 u hu
  ·exact LvC.one h1 u hu

/-- A value of its cells. -/
def toV (g : Bool) (cs : List Value) : Value := match g with
 | true => .agg cs.toArray
 | false => match cs with
  | [c] => c
  | cs => .agg cs.toArray

structure Fn where
 ps : List PK
 res : List RK
 fn : Ts (ins ps) → Option (Ts (outs res ps))

/-- Roots: of parameter i's rows and its variable, of result j's rows and its variable. -/
@[reducible] def pR (i : Nat) : Nat := 1000 + 100 * i
@[reducible] def pB (i : Nat) : Nat := 1000 + i
@[reducible] def rR (j : Nat) : Nat := 5000 + 100 * j
@[reducible] def rB (j : Nat) : Nat := 5000 + j

/-- A variable's cells, at its place. -/
def VarC (w : World) (φ : Col) (pl : Plc) (root : Nat) (cs : List Value) : Prop :=
 w.heap[pl.g]? = some (.cells (pl.pre ++ cs ++ pl.post).toArray pl.t (0, 0)) ∧ φ pl.g = some [2 * root + 1]

def ArgsC (w : World) (φ : Col) (pls : Nat → Plc) : Nat → (ps : List PK) → Ts (ins ps) → List Value → Prop
 | _, [], _, vs => vs = [] ∧ GI w φ
 | i, .val g k _ :: ps, x, vs => ∃ cs r, vs = toV g cs :: r ∧ LvC w φ (pR i) k x.1 cs ∧ (g = true ∨ k.sz = 1) ∧ ArgsC w φ pls (i + 1) ps x.2 r
 | i, .ptr k :: ps, x, vs => ∃ cs r, vs = .pointer (some ⟨(pls i).g, (pls i).pre.length, none⟩) :: r ∧ VarC w φ (pls i) (pB i) cs ∧ LvC w φ (pR i) k x.1 cs ∧ ArgsC w φ pls (i + 1) ps x.2 r

theorem ArgsC.gi {w : World} {φ : Col} {pls : Nat → Plc} : ∀ {ps : List PK} {i : Nat} {x : Ts (ins ps)} {vs : List Value}, ArgsC w φ pls i ps x vs → GI w φ
 | [], _, _, _, h => h.2
 | .val _ _ _ :: _, _, _, _, ⟨_, _, _, _, _, h⟩ => ArgsC.gi h
 | .ptr _ :: _, _, _, _, ⟨_, _, _, _, _, h⟩ => ArgsC.gi h

def KeptC (w : World) (φ : Col) (pls : Nat → Plc) : Nat → (ps : List PK) → Ts (kk ps) → List Value → Prop
 | _, [], _, vs => vs = []
 | i, .val g k true :: ps, x, vs => ∃ cs r, vs = toV g cs :: r ∧ LvC w φ (pR i) k x.1 cs ∧ (g = true ∨ k.sz = 1) ∧ KeptC w φ pls (i + 1) ps x.2 r
 | i, .val _ _ false :: ps, x, vs => ∃ v r, vs = v :: r ∧ KeptC w φ pls (i + 1) ps x r
 | i, .ptr k :: ps, x, vs => ∃ cs v r, vs = v :: r ∧ VarC w φ (pls i) (pB i) cs ∧ LvC w φ (pR i) k x.1 cs ∧ KeptC w φ pls (i + 1) ps x.2 r

def OutC (w : World) (φ : Col) (pls : Nat → Plc) (ps : List PK) (args : List Value) : Nat → (res : List RK) → Ts (outs res ps) → List Value → Prop
 | _, [], x, vs => vs = [] ∧ KeptC w φ pls 0 ps x args
 | j, .val g k :: res, x, vs => ∃ cs r, vs = toV g cs :: r ∧ LvC w φ (rR j) k x.1 cs ∧ (g = true ∨ k.sz = 1) ∧ OutC w φ pls ps args (j + 1) res x.2 r
 | j, .new k :: res, x, vs => ∃ b T cs r, vs = .pointer (some ⟨b, 0, none⟩) :: r ∧ VarC w φ ⟨b, T, [], []⟩ (rB j) cs ∧ LvC w φ (rR j) k x.1 cs ∧ OutC w φ pls ps args (j + 1) res x.2 r

def pack : List Value → Value
 | [v] => v
 | vs => .tuple vs.toArray

structure Later (w w' : World) : Prop where
 size : w.heap.size ≤ w'.heap.size
 os : w'.os = w.os
 tape : w'.tape = w.tape
 output : w'.output = w.output

/-- What a function does, whatever its place in memory. -/
def Sound (P : Program) (f : Nat) (F : Fn) : Prop :=
 ∀ x y, F.fn x = some y → ∀ (w : World) (φ : Col) (pls : Nat → Plc) (args : List Value), ArgsC w φ pls 0 F.ps x args →
  Calls P f args.toArray w fun e w' => ∃ φ' vals, e = .returned (pack vals) ∧ Keeps w w' φ φ' ∧ Fore w w' φ φ' ∧ Later w w' ∧ OutC w' φ' pls F.ps args 0 F.res y vals

/-- Roots renamed. -/
def rootL : List (Nat × Nat) → Nat → Option Nat
 | [], _ => none
 | (a, b) :: t, r => if a = r then some b else rootL t r

/-- The callee's colours: what it is given has roots of its own; what it reads (br: its roots) is nobody's, as what was; all else is another's. -/
def calCol (tg : List (Nat × Nat)) (br : List Nat) (φ : Col) : Col := fun b => match φ b with
 | none => none
 | some [] => some []
 | some (r :: q) => match rootL tg r with
  | some r' => some (r' :: q)
  | none => if r ∈ br then none else some []

/-- What a call has no leave to touch. -/
def Shut (c : Option Path) : Prop := c = none ∨ c = some []

def bkC (bk : List (Nat × Nat)) : Path → Option Path
 | [] => none
 | r :: q => match rootL bk r with
  | some r' => some (r' :: q)
  | none => none

/-- The colours behind a call. -/
def combC (n : Nat) (φ φc φ' : Col) (bk : List (Nat × Nat)) : Col := fun b =>
 match φc b with
 | none => if b < n then φ b else (φ' b).bind (bkC bk)
 | some [] => if b < n then φ b else (φ' b).bind (bkC bk)
 | some (_ :: _) => (φ' b).bind (bkC bk)

theorem comb_old {n : Nat} {φ φc φ' : Col} {bk : List (Nat × Nat)} {b : Nat} (h : Shut (φc b)) (hb : b < n) : combC n φ φc φ' bk b = φ b := by
 rcases h with h | h <;> simp only [combC, h, if_pos hb]

theorem shut_same {w w' : World} {φc φ' : Col} (hk : Keeps w w' φc φ') (hf : Fore w w' φc φ') {b : Nat} (h : Shut (φc b)) (hb : b < w.heap.size) : w'.heap[b]? = w.heap[b]? ∧ φ' b = φc b := by
 rcases h with h | h
 ·obtain ⟨e, e1⟩ := hk b h hb; exact ⟨e, e1.trans h.symm⟩
 ·obtain ⟨e, e1⟩ := hf b h hb; exact ⟨e, e1.trans h.symm⟩

theorem comb_new {w w' : World} {φ φc φ' : Col} {bk : List (Nat × Nat)} (hk : Keeps w w' φc φ') (hf : Fore w w' φc φ') {r : Nat} {q : Path} {b : Nat} (hb : φ' b = some (r :: q)) : combC w.heap.size φ φc φ' bk b = bkC bk (r :: q) := by
 have hns : ¬ (Shut (φc b) ∧ b < w.heap.size) := fun h => by
  have := (shut_same hk hf h.1 h.2).2
  rw [hb] at this
  rcases h.1 with h1 | h1 <;> rw [h1] at this <;> cases this
 have hbd : (φ' b).bind (bkC bk) = bkC bk (r :: q) := by rw [hb]; rfl
 simp only [combC]
 split
 ·rename_i hc
  rw [if_neg fun hlt => hns ⟨.inl hc, hlt⟩, hbd]
 ·rename_i hc
  rw [if_neg fun hlt => hns ⟨.inr hc, hlt⟩, hbd]
 ·exact hbd

/-- A root comes back under its new name. -/
theorem comb_back {w w' : World} {φ φc φ' : Col} {bk : List (Nat × Nat)} (hk : Keeps w w' φc φ') (hf : Fore w w' φc φ') {r r' : Nat} (hl : rootL bk r = some r') (p : Path) :
  Moves w' w' φ' (combC w.heap.size φ φc φ' bk) (r :: p) (r' :: p) := by
 intro b q hb hlt
 refine ⟨rfl, ?_⟩
 have hb' : φ' b = some (r :: (p ++ q)) := hb
 rw [comb_new hk hf hb']
 simp only [bkC, hl, List.cons_append]

/-- Where nothing was lent, what is nobody's stays so. -/
theorem comb_none {w w' : World} {φ φ' : Col} {tg : List (Nat × Nat)} {bk : List (Nat × Nat)} (hf : Fore w w' (calCol tg [] φ) φ') :
  Keeps w' w' φ' (combC w.heap.size φ (calCol tg [] φ) φ' bk) := by
 intro b hb hlt
 refine ⟨rfl, ?_⟩
 have hcn : calCol tg [] φ b = none → φ b = none := by
  intro hc
  simp only [calCol] at hc
  split at hc
  ·assumption
  ·cases hc
  ·split at hc
   ·cases hc
   ·simp at hc
 simp only [combC]
 split
 ·rename_i hc
  split
  ·exact hcn hc
  ·rw [hb]; rfl
 ·rename_i hc
  split
  ·rename_i hl
   rw [(hf b hc hl).2] at hb; cases hb
  ·rw [hb]; rfl
 ·rw [hb]; rfl

theorem cal_none {tg : List (Nat × Nat)} {br : List Nat} {φ : Col} {b : Nat} (h : φ b = none) : calCol tg br φ b = none := by simp only [calCol, h]

theorem cal_keeps (w : World) (tg : List (Nat × Nat)) (br : List Nat) (φ : Col) : Keeps w w φ (calCol tg br φ) := fun b hb _ => ⟨rfl, cal_none hb⟩

theorem comb_keeps {w w' : World} {φ φ' : Col} {tg : List (Nat × Nat)} {br : List Nat} {bk : List (Nat × Nat)} (hk : Keeps w w' (calCol tg br φ) φ') :
  Keeps w w' φ (combC w.heap.size φ (calCol tg br φ) φ' bk) := by
 intro b hb hlt
 have hc := cal_none (tg := tg) (br := br) hb
 exact ⟨(hk b hc hlt).1, by rw [comb_old (.inl hc) hlt]; exact hb⟩

theorem comb_fore {w w' : World} {φ φ' : Col} {tg : List (Nat × Nat)} {br : List Nat} {bk : List (Nat × Nat)} (hf : Fore w w' (calCol tg br φ) φ') :
  Fore w w' φ (combC w.heap.size φ (calCol tg br φ) φ' bk) := by
 intro b hb hlt
 have hc : calCol tg br φ b = some [] := by simp only [calCol, hb]
 exact ⟨(hf b hc hlt).1, by rw [comb_old (.inr hc) hlt]; exact hb⟩

/-- Roots that are not handed over stay. -/
theorem cal_shut {tg : List (Nat × Nat)} {br : List Nat} {φ : Col} {b r : Nat} {q : Path} (h : φ b = some (r :: q)) (hn : rootL tg r = none) : Shut (calCol tg br φ b) := by
 simp only [calCol, h, hn]
 split
 ·exact .inl rfl
 ·exact .inr rfl

theorem cal_moves (w : World) {tg : List (Nat × Nat)} {br : List Nat} {φ : Col} {r r' : Nat} (h : rootL tg r = some r') (p : Path) : Moves w w φ (calCol tg br φ) (r :: p) (r' :: p) := by
 intro b q hb _
 have hb' : φ b = some (r :: (p ++ q)) := hb
 exact ⟨rfl, by simp only [calCol, hb', h, List.cons_append]⟩

theorem cal_frees (w : World) {tg : List (Nat × Nat)} {br : List Nat} {φ : Col} {r : Nat} (h : rootL tg r = none) (hb : r ∈ br) (p : Path) : Frees w w φ (calCol tg br φ) (r :: p) := by
 intro b q hb' _
 have hb'' : φ b = some (r :: (p ++ q)) := hb'
 exact ⟨rfl, by simp only [calCol, hb'', h, if_pos hb]⟩

/-- A root that is not handed over: as it was behind the call. -/
theorem comb_stay {w w' : World} {φ φ' : Col} {tg : List (Nat × Nat)} {br : List Nat} {bk : List (Nat × Nat)} (hk : Keeps w w' (calCol tg br φ) φ') (hf : Fore w w' (calCol tg br φ) φ') {r : Nat} (hn : rootL tg r = none) (p : Path) :
  Moves w w' φ (combC w.heap.size φ (calCol tg br φ) φ' bk) (r :: p) (r :: p) := by
 intro b q hb hlt
 have hb' : φ b = some (r :: (p ++ q)) := hb
 have hs := cal_shut (tg := tg) (br := br) hb' hn
 exact ⟨(shut_same hk hf hs hlt).1, by rw [comb_old hs hlt]; exact hb⟩

end Go.Proofs.YthnfghmjipikhaaGreatDoor.Ev
namespace Go.Proofs.YthnfghmjipikhaaGreatDoor.Ev

/-- States that tell the same. -/
def Geq (s s' : St) : Prop := ∀ l, St.get s' l = St.get s l

theorem Geq.refl (s : St) : Geq s s := fun _ => rfl
theorem Geq.trans {s s1 s2 : St} (h : Geq s s1) (h1 : Geq s1 s2) : Geq s s2 := fun l => (h1 l).trans (h l)
theorem Geq.symm {s s1 : St} (h : Geq s s1) : Geq s1 s := fun l => (h l).symm
theorem Geq.cons {s s1 : St} (h : Geq s s1) (p : Loc × Option LV) : Geq (p :: s) (p :: s1) := by
 intro l
 obtain ⟨q, v⟩ := p
 by_cases e : q = l
 ·subst e; rw [St.get_cons_same, St.get_cons_same]
 ·rw [St.get_cons_ne e, St.get_cons_ne e]; exact h l
theorem Geq.app {s s1 : St} (h : Geq s s1) : ∀ (w : St), Geq (w ++ s) (w ++ s1)
 | [] => h
 | p :: w => (Geq.app h w).cons p

theorem Geq.ext {s s1 : St} (h : Geq s s1) (m : Mem) (L : Loc → Prop) : Ext s m s1 m L := Ext.same (fun l _ => h l) L

theorem Rel.geq {n : Nat} {w0 : World} {φ0 : Gh} {s s1 : St} {a : Act} {m : Mem} (h : Rel n w0 φ0 s a m) (hg : Geq s s1) : Rel n w0 φ0 s1 a m :=
 h.change (fun d => hg _) (hg.ext m _) (fun id r hr => h.rw id r (by rw [← hg]; exact hr)) (fun b c hc => by
  obtain ⟨cs, h1, h2, h3, h4⟩ := h.bx b c (by rw [← hg]; exact hc)
  exact ⟨cs, All2.imp (fun l hl b' hb => hb.ext (hg.ext m _)) h1, h2, h3, h4⟩) (Fore.refl _ _) (Nat.le_refl _) rfl rfl rfl (fun id r _ _ hg' => ⟨⟨r, by rw [← hg]; exact hg'⟩, rfl⟩) (fun b c hg' => .inl ⟨⟨c, by rw [← hg]; exact hg'⟩, rfl⟩)

theorem Reads.geq {s s1 : St} {rd : Rds} (h : Reads s rd) (hg : Geq s s1) : Reads s1 rd := fun p hp => (hg _).trans (h p hp)

theorem Live.geq {s s1 : St} (hg : Geq s s1) {l : Loc} (h : Live s1 l) : Live s l := by
 obtain ⟨l', lv, h1, h2⟩ := h
 exact ⟨l', lv, by rw [← hg]; exact h1, h2⟩

/-- What a region's operation at place i does. -/
def Place (P : Program) (n : Nat) (ops : Array Oper) (i : Nat) (δ : Δ) : Prop :=
 ∀ w0 φ0 s a m, Rel n w0 φ0 s a m → Reads s δ.rd → (∀ l ∈ δ.new, ¬ Live s l) → ∀ (Q : Exit → Act → World → Prop) (K : Act → World → Prop),
  (∀ a' m', Rel n w0 φ0 (δ.wr ++ s) a' m' → K a' m'.w) → wpOp P ops Q i K a m.w

def dstOf (ops : Array Oper) (j : Nat) : Option Nat := match ops[j]? with
 | some o => o.dst
 | none => none

theorem yielded_of {n : Nat} {w0 : World} {φ0 : Gh} {s : St} {a : Act} {m : Mem} (h : Rel n w0 φ0 s a m) {ops : Array Oper} {j d : Nat} (hd : dstOf ops j = some d) {b : Bool}
  (hg : s.get (.t d) = some (.t (.one (.bool b)))) : yielded ops a.tmps j = some b := by
 have h1 : ((ops[j]?).bind (·.dst)) = some d := by
  unfold dstOf at hd
  split at hd
  ·rename_i o e; rw [e]; exact hd
  ·cases hd
 have h2 : a.tmps.getD d undef = .bool b := h.tm d _ hg
 have h3 : a.tmps[d]? = some (.bool b) := by
  rw [Array.getD_eq_getD_getElem?] at h2
  cases e : a.tmps[d]? with
  | none => rw [e] at h2; cases h2
  | some v => rw [e] at h2; simp at h2; rw [h2]
 simp only [yielded, h1, Option.bind_some, h3]

theorem yielded_und {n : Nat} {w0 : World} {φ0 : Gh} {s : St} {a : Act} {m : Mem} (h : Rel n w0 φ0 s a m) {ops : Array Oper} {j d : Nat} (hd : dstOf ops j = some d)
  (hg : s.get (.t d) = some (.t .und)) : yielded ops a.tmps j = none := by
 have h1 : ((ops[j]?).bind (·.dst)) = some d := by
  unfold dstOf at hd
  split at hd
  ·rename_i o e; rw [e]; exact hd
  ·cases hd
 have h2 : a.tmps.getD d undef = undef := h.tm d _ hg
 simp only [yielded, h1, Option.bind_some]
 rw [Array.getD_eq_getD_getElem?] at h2
 cases e : a.tmps[d]? with
 | none => rfl
 | some v => rw [e] at h2; simp at h2; rw [h2]; rfl

/-- An operator of the language, evaluated. -/
def OutG {R : Type} (P : Program) (s : St) (op : Op) (d : Option Nat) (κ : Ke R) (r : R) : Prop :=
 ∃ δ, κ δ = some r ∧ Reads s δ.rd ∧ ∀ n (o : Oper), o.op = op → o.dst = d → (∀ i, d = some i → i < n) → Good P n o δ

def EvOp : Type 1 := {R : Type} → St → Op → Option Nat → Ke R → Option R
def EvOpOk (P : Program) (E : EvOp) : Prop := ∀ {R : Type} {s : St} {op : Op} {d : Option Nat} {κ : Ke R} {r : R}, E s op d κ = some r → OutG P s op d κ r

def skipW : Option Nat → List (Loc × Option LV)
 | none => []
 | some d => [(.t d, some (.t .und))]

def litB (d : Nat) (b : Bool) : Loc × LV := (.t d, .t (.one (.bool b)))

def boolEq : Bool → Bool → Bool
 | true, true => true
 | false, false => true
 | _, _ => false

/-- One side of a guard. -/
def evSide (E : EvOp) {R : Type} (s : St) (o : Oper) (dj : Nat) (want b : Bool) (κ : St → Δ → Option R) : Option R :=
 match boolEq want b with
 | true => E ((.t dj, some (.t (.one (.bool b)))) :: s) o.op o.dst fun δ => κ ((.t dj, some (.t (.one (.bool b)))) :: s) ⟨litB dj b :: δ.rd, δ.wr, δ.new⟩
 | false => κ ((.t dj, some (.t (.one (.bool b)))) :: s) ⟨[litB dj b], skipW o.dst, []⟩

def evAt (E : EvOp) {R : Type} (ops : Array Oper) (s : St) (o : Oper) (κ : St → Δ → Option R) : Option R :=
 match o.guard with
 | none => E s o.op o.dst (κ s)
 | some (j, want) => match dstOf ops j with
  | none => none
  | some dj => match s.getT dj with
   | some .und => κ s ⟨[(.t dj, .t .und)], skipW o.dst, []⟩
   | some (.one (.bool b)) => bif b then evSide E s o dj want true κ else evSide E s o dj want false κ
   | _ => none

theorem boolEq_true {a b : Bool} : boolEq a b = true ↔ a = b := by cases a <;> cases b <;> simp [boolEq]
theorem boolEq_false {a b : Bool} : boolEq a b = false ↔ a = !b := by cases a <;> cases b <;> simp [boolEq]

theorem place_run {P : Program} {n : Nat} {ops : Array Oper} {i : Nat} {o : Oper} (ho : ops[i]? = some o) {δ : Δ} (hg : o.guard = none) (h : Good P n o δ) : Place P n ops i δ := by
 intro w0 φ0 s a m hr hrd hnew Q K hK
 have hw : Region.wanted o (yielded ops a.tmps) = true := by simp only [Region.wanted, hg]
 simp only [wpOp, ho, hw, if_true]
 exact .inl (h w0 φ0 s a m hr hrd hnew K Q hK)

theorem place_side {P : Program} {n : Nat} {ops : Array Oper} {i : Nat} {o : Oper} (ho : ops[i]? = some o) {δ : Δ} {j dj : Nat} {want : Bool} (hg : o.guard = some (j, want)) (hd : dstOf ops j = some dj)
  (h : Good P n o δ) : Place P n ops i ⟨litB dj want :: δ.rd, δ.wr, δ.new⟩ := by
 intro w0 φ0 s a m hr hrd hnew Q K hK
 have hy := yielded_of hr hd (hrd _ List.mem_cons_self)
 have hw : Region.wanted o (yielded ops a.tmps) = true := by simp only [Region.wanted, hg, hy, beq_self_eq_true]
 simp only [wpOp, ho, hw, if_true]
 exact .inl (h w0 φ0 s a m hr (fun p hp => hrd p (List.mem_cons_of_mem _ hp)) hnew K Q hK)

theorem rel_skip {n : Nat} {w0 : World} {φ0 : Gh} {s : St} {a : Act} {m : Mem} (h : Rel n w0 φ0 s a m) {d : Option Nat} (hd : ∀ i, d = some i → i < n) : Rel n w0 φ0 (skipW d ++ s) (a.put d undef) m := by
 cases d with
 | none => exact h
 | some d => exact h.put (v := .und) (hd d rfl) rfl

theorem place_skip {P : Program} {n : Nat} {ops : Array Oper} {i : Nat} {o : Oper} (ho : ops[i]? = some o) {j dj : Nat} {want : Bool} (hg : o.guard = some (j, want)) (hd : dstOf ops j = some dj)
  (hdst : ∀ i, o.dst = some i → i < n) {v : AV} (hv : v = .one (.bool (!want)) ∨ v = .und) : Place P n ops i ⟨[(.t dj, .t v)], skipW o.dst, []⟩ := by
 intro w0 φ0 s a m hr hrd hnew Q K hK
 have hrd0 := hrd _ List.mem_cons_self
 have hw : Region.wanted o (yielded ops a.tmps) = false := by
  rcases hv with rfl | rfl
  ·simp only [Region.wanted, hg, yielded_of hr hd hrd0]; cases want <;> rfl
  ·simp only [Region.wanted, hg, yielded_und hr hd hrd0]; rfl
 simp only [wpOp, ho, hw, Bool.false_eq_true, if_false]
 exact hK _ m (rel_skip hr hdst)

theorem geq_lit {s : St} {d : Nat} {v : AV} (h : s.get (.t d) = some (.t v)) : Geq s ((.t d, some (.t v)) :: s) := by
 intro l
 by_cases e : Loc.t d = l
 ·subst e; rw [St.get_cons_same, h]
 ·rw [St.get_cons_ne e]

theorem evAt_ok {P : Program} {E : EvOp} (hE : EvOpOk P E) {R : Type} {n : Nat} {ops : Array Oper} {i : Nat} {o : Oper} (ho : ops[i]? = some o) (hdst : ∀ i, o.dst = some i → i < n) {s : St} {κ : St → Δ → Option R} {r : R}
  (h : evAt E ops s o κ = some r) : ∃ s' δ, κ s' δ = some r ∧ s <:+ s' ∧ Geq s s' ∧ (∀ l, fresh s' l = fresh s l) ∧ Reads s' δ.rd ∧ Place P n ops i δ := by
 unfold evAt at h
 split at h
 ·rename_i hg
  obtain ⟨δ, h1, h2, h3⟩ := hE h
  exact ⟨s, δ, h1, List.suffix_refl _, Geq.refl _, fun _ => rfl, h2, place_run ho hg (h3 n o rfl rfl hdst)⟩
 ·rename_i j want hg
  split at h
  ·cases h
  ·rename_i dj hd
   split at h
   ·rename_i hu
    exact ⟨s, _, h, List.suffix_refl _, Geq.refl _, fun _ => rfl, fun p hp => by rw [List.mem_singleton.1 hp]; exact St.getT_some.1 hu, place_skip ho hg hd hdst (.inr rfl)⟩
   ·rename_i b hb
    have hb := St.getT_some.1 hb
    have key : ∀ b', b = b' → evSide E s o dj want b' κ = some r → ∃ s' δ, κ s' δ = some r ∧ s <:+ s' ∧ Geq s s' ∧ (∀ l, fresh s' l = fresh s l) ∧ Reads s' δ.rd ∧ Place P n ops i δ := by
     intro b' e hs
     subst e
     have hgq := geq_lit hb
     unfold evSide at hs
     split at hs
     ·rename_i hw
      have hw := boolEq_true.1 hw
      subst hw
      obtain ⟨δ, h1, h2, h3⟩ := hE hs
      refine ⟨_, _, h1, List.suffix_cons _ _, hgq, fun l => by simp [fresh, LV.men, AV.men, Lf.men], fun p hp => ?_, place_side ho hg hd (h3 n o rfl rfl hdst)⟩
      rcases List.mem_cons.1 hp with rfl | hp
      ·exact St.get_cons_same _ _ _
      ·exact h2 p hp
     ·rename_i hw
      have hw := boolEq_false.1 hw
      refine ⟨_, _, hs, List.suffix_cons _ _, hgq, fun l => by simp [fresh, LV.men, AV.men, Lf.men], fun p hp => ?_, place_skip ho hg hd hdst (.inl ?_)⟩
      ·rw [List.mem_singleton.1 hp]; exact St.get_cons_same _ _ _
      ·rw [hw]; simp
    cases b with
    | true => exact key true rfl h
    | false => exact key false rfl h
   ·cases h

def okD (n : Nat) : Option Nat → Bool
 | none => true
 | some d => Nat.blt d n
theorem okD_ok {n : Nat} {d : Option Nat} (h : okD n d = true) : ∀ i, d = some i → i < n := fun i e => by
 subst e; exact blt_iff.1 h

def evText (E : EvOp) {R : Type} (n : Nat) (ops : Array Oper) : List Oper → St → (St → Option R) → Option R
 | [], s, k => k s
 | o :: os, s, k => match okD n o.dst with
  | true => evAt E ops s o fun s' δ => match δ.new.all (fresh s') with
   | true => evText E n ops os (δ.wr ++ s') k
   | false => none
  | false => none

theorem evText_ok {P : Program} {E : EvOp} (hE : EvOpOk P E) {R : Type} {n : Nat} {ops : Array Oper} : ∀ {os : List Oper} {i : Nat} {s : St} {k : St → Option R} {r : R},
  (∀ j o, os[j]? = some o → ops[i + j]? = some o) → evText E n ops os s k = some r →
  ∃ s', k s' = some r ∧ s <:+ s' ∧ ∀ w0 φ0 a m, Rel n w0 φ0 s a m → ∀ Q : Exit → Act → World → Prop, (∀ a' m', Rel n w0 φ0 s' a' m' → Q .normal a' m'.w) → wpOps P ops Q (List.range' i os.length) a m.w
 | [], i, s, k, r, _, h => ⟨s, h, List.suffix_refl _, fun w0 φ0 a m hr Q hQ => hQ a m hr⟩
 | o :: os, i, s, k, r, hops, h => by
  simp only [evText] at h
  split at h
  ·rename_i hok
   obtain ⟨s', δ, h1, hsf, h2, _, h3, h4⟩ := evAt_ok hE (n := n) (hops 0 o rfl) (okD_ok hok) h
   split at h1
   ·rename_i hf
    obtain ⟨s'', h5, hsf2, h6⟩ := evText_ok hE (i := i + 1) (fun j o' hj => by
     have := hops (j + 1) o' (by simpa using hj)
     rwa [show i + (j + 1) = i + 1 + j by omega] at this) h1
    refine ⟨s'', h5, hsf.trans ((List.suffix_append _ _).trans hsf2), fun w0 φ0 a m hr Q hQ => ?_⟩
    rw [List.length_cons, List.range'_succ, wpOps_cons]
    exact h4 w0 φ0 s' a m (hr.geq h2) h3 (fun l hl => fresh_live (List.all_eq_true.1 hf l hl)) Q _ fun a' m' hr' => h6 w0 φ0 a' m' hr' Q hQ
   ·cases h1
  ·cases h

theorem evText_region {P : Program} {E : EvOp} (hE : EvOpOk P E) {R : Type} {n id : Nat} {ops : Array Oper} {s : St} {k : St → Option R} {r : R} (h : evText E n ops ops.toList s k = some r) :
  ∃ s', k s' = some r ∧ s <:+ s' ∧ ∀ w0 φ0 a m, Rel n w0 φ0 s a m → ∀ Q : Exit → Act → World → Prop, (∀ a' m', Rel n w0 φ0 s' a' m' → Q .normal a' m'.w) → (Code.region id ops false).wp P Q a m.w := by
 obtain ⟨s', h1, hsf, h2⟩ := evText_ok hE (i := 0) (fun j o hj => by rw [Nat.zero_add, ← Array.getElem?_toList]; exact hj) h
 refine ⟨s', h1, hsf, fun w0 φ0 a m hr Q hQ => wp_region ?_⟩
 have := h2 w0 φ0 a m hr Q hQ
 rwa [Array.length_toList, ← List.range_eq_range'] at this

end Go.Proofs.YthnfghmjipikhaaGreatDoor.Ev
namespace Go.Proofs.YthnfghmjipikhaaGreatDoor.Ev

/-- The state behind those operations that E names. The list is in reverse. -/
def subR (E : Nat → Bool) : List Δ → St → St
 | [], s => s
 | δ :: acc, s => match E acc.length with
  | true => δ.wr ++ subR E acc s
  | false => subR E acc s

def fullR : List Δ → St → St
 | [], s => s
 | δ :: acc, s => δ.wr ++ fullR acc s

theorem subR_full {E : Nat → Bool} {s : St} : ∀ {acc : List Δ}, (∀ i, i < acc.length → E i = true) → subR E acc s = fullR acc s
 | [], _ => rfl
 | δ :: acc, h => by
  simp only [subR, fullR, h acc.length (by simp), subR_full (acc := acc) fun i hi => h i (by simp; omega)]

theorem subR_none {E : Nat → Bool} {s : St} : ∀ {acc : List Δ}, (∀ i, i < acc.length → E i = false) → subR E acc s = s
 | [], _ => rfl
 | δ :: acc, h => by
  simp only [subR, h acc.length (by simp), subR_none (acc := acc) fun i hi => h i (by simp; omega)]

theorem subR_cong {E E' : Nat → Bool} {s : St} : ∀ {acc : List Δ}, (∀ i, i < acc.length → E i = E' i) → subR E acc s = subR E' acc s
 | [], _ => rfl
 | δ :: acc, h => by
  simp only [subR, h acc.length (by simp), subR_cong (acc := acc) fun i hi => h i (by simp; omega)]

def inW (wr : List (Loc × Option LV)) (l : Loc) : Bool := wr.any fun w => w.1.eqb l
def menW (wr : List (Loc × Option LV)) (l : Loc) : Bool := !(fresh wr l)

theorem get_app {s : St} {l : Loc} : ∀ {wr : List (Loc × Option LV)}, inW wr l = false → St.get (wr ++ s) l = s.get l
 | [], _ => rfl
 | (l', v) :: wr, h => by
  simp only [inW, List.any_cons, Bool.or_eq_false_iff] at h
  rw [List.cons_append, St.get_cons_ne (Loc.eqb_false.1 h.1)]
  exact get_app h.2

theorem get_app_in {s s' : St} {l : Loc} : ∀ {wr : List (Loc × Option LV)}, inW wr l = true → St.get (wr ++ s) l = St.get (wr ++ s') l
 | [], h => by cases h
 | (l', v) :: wr, h => by
  by_cases e : l' = l
  ·subst e; rw [List.cons_append, List.cons_append, St.get_cons_same, St.get_cons_same]
  ·rw [List.cons_append, List.cons_append, St.get_cons_ne e, St.get_cons_ne e]
   refine get_app_in ?_
   simp only [inW, List.any_cons, Bool.or_eq_true] at h
   exact h.resolve_left fun h1 => e (Loc.eqb_iff.1 h1)

theorem fresh_app {a b : St} {l : Loc} : fresh (a ++ b) l = (fresh a l && fresh b l) := by simp only [fresh, List.all_append]

/-- Two operations that may come in either order. -/
def indep (a b : Δ) : Bool :=
 a.wr.all (fun w => !(inW b.wr w.1) && !(b.rd.any fun p => p.1.eqb w.1)) && b.wr.all (fun w => !(a.rd.any fun p => p.1.eqb w.1)) && a.new.all (fresh b.wr) && b.new.all (fresh a.wr)

structure Indep (a b : Δ) : Prop where
 ww : ∀ l, inW a.wr l = true → inW b.wr l = false
 wr : ∀ p ∈ b.rd, inW a.wr p.1 = false
 rw : ∀ p ∈ a.rd, inW b.wr p.1 = false
 na : ∀ l ∈ a.new, fresh b.wr l = true
 nb : ∀ l ∈ b.new, fresh a.wr l = true

theorem inW_mem {wr : List (Loc × Option LV)} {l : Loc} (h : inW wr l = true) : ∃ w ∈ wr, w.1 = l := by
 obtain ⟨w, hw, e⟩ := List.any_eq_true.1 h
 exact ⟨w, hw, Loc.eqb_iff.1 e⟩

theorem indep_ok {a b : Δ} (h : indep a b = true) : Indep a b := by
 simp only [indep, Bool.and_eq_true] at h
 obtain ⟨⟨⟨h1, h2⟩, h3⟩, h4⟩ := h
 refine ⟨fun l hl => ?_, fun p hp => ?_, fun p hp => ?_, fun l hl => List.all_eq_true.1 h3 l hl, fun l hl => List.all_eq_true.1 h4 l hl⟩
 ·obtain ⟨w, hw, rfl⟩ := inW_mem hl
  have := List.all_eq_true.1 h1 w hw
  simp only [Bool.and_eq_true, Bool.not_eq_true'] at this
  exact this.1
 ·cases e : inW a.wr p.1 with
  | false => rfl
  | true =>
   obtain ⟨w, hw, hl⟩ := inW_mem e
   have := List.all_eq_true.1 h1 w hw
   simp only [Bool.and_eq_true, Bool.not_eq_true'] at this
   have := List.any_eq_false.1 this.2 p hp
   rw [hl] at this
   exact absurd (Loc.eqb_iff.2 rfl) this
 ·cases e : inW b.wr p.1 with
  | false => rfl
  | true =>
   obtain ⟨w, hw, hl⟩ := inW_mem e
   have := List.all_eq_true.1 h2 w hw
   simp only [Bool.not_eq_true'] at this
   have := List.any_eq_false.1 this p hp
   rw [hl] at this
   exact absurd (Loc.eqb_iff.2 rfl) this

/-- Numbers of those that must come ahead, as bits. -/
def maskOf (ms : List Nat) (es : List Edge) : Nat := es.foldl (fun acc e => match Region.binds .any e with
 | true => acc ||| (1 <<< e.on) ||| ms.getD e.on 0
 | false => acc) 0

def masks : List Oper → List Nat → List Nat
 | [], ms => ms
 | o :: os, ms => masks os (ms ++ [maskOf ms o.after.toList])

def backB (j : Nat) (es : List Edge) : Bool := es.all fun e => match Region.binds .any e with
 | true => Nat.blt e.on j
 | false => true

/-- Each pair that no edge keeps in order is independent. The list is in reverse. -/
def pairB (δ : Δ) (mask : Nat) : List Δ → Bool
 | [] => true
 | δi :: acc => (Nat.testBit mask acc.length || indep δi δ) && pairB δ mask acc

def pairsB (ms : List Nat) : List Δ → Bool
 | [] => true
 | δ :: acc => pairB δ (ms.getD acc.length 0) acc && pairsB ms acc

def evDraw (E : EvOp) {R : Type} (n : Nat) (ops : Array Oper) : List Oper → List Δ → St → (List Δ → St → Option R) → Option R
 | [], acc, s, k => k acc s
 | o :: os, acc, s, k => match okD n o.dst with
  | true => evAt E ops s o fun s' δ => match δ.new.all (fresh s') with
   | true => evDraw E n ops os (δ :: acc) (δ.wr ++ s') k
   | false => none
  | false => none

/-- What is known of a region's operations. -/
def Facts (P : Program) (n : Nat) (ops : Array Oper) (s0 : St) : List Δ → Prop
 | [] => True
 | δ :: acc => Place P n ops acc.length δ ∧ Reads (fullR acc s0) δ.rd ∧ (∀ l ∈ δ.new, fresh (fullR acc s0) l = true) ∧ Facts P n ops s0 acc

theorem evDraw_ok {P : Program} {E : EvOp} (hE : EvOpOk P E) {R : Type} {n : Nat} {ops : Array Oper} {s0 : St} : ∀ {os : List Oper} {acc : List Δ} {s : St} {k : List Δ → St → Option R} {r : R},
  (∀ j o, os[j]? = some o → ops[acc.length + j]? = some o) → Facts P n ops s0 acc → Geq (fullR acc s0) s → (∀ l, fresh s l = fresh (fullR acc s0) l) → evDraw E n ops os acc s k = some r →
  ∃ acc' s', k acc' s' = some r ∧ s <:+ s' ∧ acc'.length = acc.length + os.length ∧ Facts P n ops s0 acc' ∧ Geq (fullR acc' s0) s'
 | [], acc, s, k, r, _, hF, hg, hfr, h => ⟨acc, s, h, List.suffix_refl _, rfl, hF, hg⟩
 | o :: os, acc, s, k, r, hops, hF, hg, hfr, h => by
  simp only [evDraw] at h
  split at h
  ·rename_i hok
   obtain ⟨s', δ, h1, hsf, h2, h2f, h3, h4⟩ := evAt_ok hE (n := n) (hops 0 o rfl) (okD_ok hok) h
   split at h1
   ·rename_i hf
    have hg' : Geq (fullR acc s0) s' := hg.trans h2
    obtain ⟨acc', s'', h5, hsf2, h6, h7, h8⟩ := evDraw_ok hE (s0 := s0) (acc := δ :: acc) (fun j o' hj => by
     have := hops (j + 1) o' (by simpa using hj)
     rw [List.length_cons]
     rwa [show acc.length + (j + 1) = acc.length + 1 + j by omega] at this)
     ⟨h4, h3.geq hg'.symm, fun l hl => by rw [← hfr, ← h2f]; exact List.all_eq_true.1 hf l hl, hF⟩ (hg'.app δ.wr) (fun l => by rw [fullR, fresh_app, fresh_app, h2f, hfr]) h1
    exact ⟨acc', s'', h5, hsf.trans ((List.suffix_append _ _).trans hsf2), by rw [h6]; simp; omega, h7, h8⟩
   ·cases h1
  ·cases h

/-- What is done holds what must come ahead of it. -/
def Closed (ops : Array Oper) (E : Nat → Bool) : Prop := ∀ j o, ops[j]? = some o → E j = true → ∀ e ∈ o.after, Region.binds .any e = true → E e.on = true

theorem maskOf_bit {ms : List Nat} {i : Nat} : ∀ {es : List Edge} {acc : Nat}, Nat.testBit (es.foldl (fun acc e => match Region.binds .any e with
  | true => acc ||| (1 <<< e.on) ||| ms.getD e.on 0
  | false => acc) acc) i = true → Nat.testBit acc i = true ∨ ∃ e ∈ es, Region.binds .any e = true ∧ (i = e.on ∨ Nat.testBit (ms.getD e.on 0) i = true)
 | [], acc, h => .inl h
 | e :: es, acc, h => by
  rw [List.foldl_cons] at h
  rcases maskOf_bit h with h | ⟨e', he, hb, h⟩
  ·cases hb : Region.binds .any e with
   | false => rw [hb] at h; exact .inl h
   | true =>
    rw [hb] at h
    simp only [Nat.testBit_or, Bool.or_eq_true] at h
    rcases h with (h | h) | h
    ·exact .inl h
    ·refine .inr ⟨e, List.mem_cons_self, hb, .inl ?_⟩
     rw [Nat.one_shiftLeft, Nat.testBit_two_pow] at h
     exact (of_decide_eq_true h).symm
    ·exact .inr ⟨e, List.mem_cons_self, hb, .inr h⟩
  ·exact .inr ⟨e', List.mem_cons_of_mem _ he, hb, h⟩

theorem masks_len : ∀ (os : List Oper) (ms : List Nat), (masks os ms).length = ms.length + os.length
 | [], _ => rfl
 | o :: os, ms => by rw [masks, masks_len]; simp; omega

theorem masks_old : ∀ (os : List Oper) (ms : List Nat) (i : Nat), i < ms.length → (masks os ms).getD i 0 = ms.getD i 0
 | [], _, _, _ => rfl
 | o :: os, ms, i, h => by
  rw [masks, masks_old os _ i (by simp; omega)]
  simp only [List.getD_eq_getElem?_getD, List.getElem?_append_left h]

theorem masks_bit {ops : Array Oper} {E : Nat → Bool} (hc : Closed ops E) : ∀ {os : List Oper} {ms : List Nat}, (∀ j o, os[j]? = some o → ops[ms.length + j]? = some o) → (∀ j o, os[j]? = some o → backB (ms.length + j) o.after.toList = true) →
  (∀ j, j < ms.length → ∀ i, Nat.testBit (ms.getD j 0) i = true → E j = true → E i = true) → ∀ j, j < ms.length + os.length → ∀ i, Nat.testBit ((masks os ms).getD j 0) i = true → E j = true → E i = true
 | [], ms, _, _, h, j, hj, i, hb, he => h j (by simpa using hj) i hb he
 | o :: os, ms, hops, hback, h, j, hj, i, hb, he => by
  refine masks_bit hc (os := os) (ms := ms ++ [maskOf ms o.after.toList]) (fun j o' hj => ?_) (fun j o' hj => ?_) ?_ j (by simp at hj ⊢; omega) i hb he
  ·have := hops (j + 1) o' (by simpa using hj)
   simp only [List.length_append, List.length_singleton]
   rwa [show ms.length + (j + 1) = ms.length + 1 + j by omega] at this
  ·have := hback (j + 1) o' (by simpa using hj)
   simp only [List.length_append, List.length_singleton]
   rwa [show ms.length + (j + 1) = ms.length + 1 + j by omega] at this
  ·intro j hj i hb he
   simp only [List.length_append, List.length_singleton] at hj
   by_cases hl : j < ms.length
   ·simp only [List.getD_eq_getElem?_getD, List.getElem?_append_left hl] at hb
    exact h j hl i (by simpa [List.getD_eq_getElem?_getD] using hb) he
   ·have hj' : j = ms.length := by omega
    subst hj'
    simp only [List.getD_eq_getElem?_getD, List.getElem?_concat_length, Option.getD_some] at hb
    have h0 := hops 0 o rfl
    rw [Nat.add_zero] at h0
    have hbk := hback 0 o rfl
    rcases maskOf_bit hb with hb | ⟨e, hem, hbi, hb⟩
    ·simp at hb
    ·have heE := hc ms.length o h0 he e (Array.mem_toList_iff.1 hem) hbi
     have hlt := List.all_eq_true.1 hbk e hem
     simp only [hbi] at hlt
     have hlt := blt_iff.1 hlt
     rcases hb with rfl | hb
     ·exact heE
     ·exact h e.on hlt i hb heE

theorem pairB_get {δ : Δ} {mask : Nat} : ∀ {acc : List Δ}, pairB δ mask acc = true → ∀ {pre : List Δ} {δi : Δ} {suf : List Δ}, acc = pre ++ δi :: suf → Nat.testBit mask suf.length = true ∨ Indep δi δ
 | [], _, pre, δi, suf, e => by simp at e
 | δ0 :: acc, h, pre, δi, suf, e => by
  simp only [pairB, Bool.and_eq_true, Bool.or_eq_true] at h
  cases pre with
  | nil =>
   simp only [List.nil_append] at e
   injection e with e1 e2; subst e1; subst e2
   exact h.1.imp id indep_ok
  | cons x pre =>
   simp only [List.cons_append] at e
   injection e with e1 e2; subst e1; subst e2
   exact pairB_get h.2 rfl

/-- Ahead of an operation: what it reads is there. -/
theorem below {ms : List Nat} {E : Nat → Bool} {s0 : St} {δi : Δ} {i : Nat} (hE : ∀ j, j < i → Nat.testBit (ms.getD i 0) j = true → E j = true) : ∀ {acc : List Δ}, acc.length ≤ i → pairB δi (ms.getD i 0) acc = true →
  (∀ p ∈ δi.rd, St.get (subR E acc s0) p.1 = St.get (fullR acc s0) p.1) ∧ ∀ l, fresh (fullR acc s0) l = true → fresh (subR E acc s0) l = true
 | [], _, _ => ⟨fun _ _ => rfl, fun _ h => h⟩
 | δ :: acc, hl, h => by
  simp only [pairB, Bool.and_eq_true, Bool.or_eq_true] at h
  have hl' : acc.length < i := by simp at hl; omega
  obtain ⟨ih1, ih2⟩ := below (s0 := s0) hE (acc := acc) (by omega) h.2
  simp only [subR, fullR]
  cases e : E acc.length with
  | true =>
   refine ⟨fun p hp => ?_, fun l hl => ?_⟩
   ·cases ein : inW δ.wr p.1 with
    | true => exact get_app_in ein
    | false => rw [get_app ein, get_app ein]; exact ih1 p hp
   ·simp only [fresh_app, Bool.and_eq_true] at hl ⊢
    exact ⟨hl.1, ih2 l hl.2⟩
  | false =>
   have hin : Indep δ δi := by
    rcases h.1 with h1 | h1
    ·rw [hE _ hl' h1] at e; cases e
    ·exact indep_ok h1
   refine ⟨fun p hp => ?_, fun l hl => ?_⟩
   ·rw [get_app (hin.wr p hp)]; exact ih1 p hp
   ·simp only [fresh_app, Bool.and_eq_true] at hl
    exact ih2 l hl.2

def with1 (E : Nat → Bool) (i : Nat) : Nat → Bool := fun j => Nat.beq i j || E j

theorem with1_ne {E : Nat → Bool} {i j : Nat} (h : i ≠ j) : with1 E i j = E j := by
 have : Nat.beq i j = false := by
  cases e : Nat.beq i j with
  | false => rfl
  | true => exact absurd (Nat.eq_of_beq_eq_true e) h
 simp only [with1, this, Bool.false_or]
theorem with1_eq (E : Nat → Bool) (i : Nat) : with1 E i i = true := by simp [with1]

theorem geq_swap {a b : List (Loc × Option LV)} (s : St) (h : ∀ l, inW a l = true → inW b l = false) : Geq (a ++ (b ++ s)) (b ++ (a ++ s)) := by
 intro l
 cases ha : inW a l with
 | true =>
  rw [get_app (h l ha)]
  exact get_app_in ha
 | false =>
  rw [get_app ha]
  cases hb : inW b l with
  | true => exact get_app_in hb
  | false => rw [get_app hb, get_app hb, get_app ha]

/-- An operation whose turn may come: it is right there, and the state behind it is as if it came in its turn. -/
theorem turn {P : Program} {n : Nat} {ops : Array Oper} {ms : List Nat} {E : Nat → Bool} {s0 : St} {i : Nat} (hEi : E i = false) (hup : ∀ j, j < i → Nat.testBit (ms.getD i 0) j = true → E j = true)
  (hcl : ∀ j, j < ms.length → Nat.testBit (ms.getD j 0) i = true → E j = true → E i = true) : ∀ {acc : List Δ}, acc.length ≤ ms.length → i < acc.length → pairsB ms acc = true → Facts P n ops s0 acc →
  ∃ δ pre suf, acc = pre ++ δ :: suf ∧ suf.length = i ∧ Place P n ops i δ ∧ Reads (subR E acc s0) δ.rd ∧ (∀ l ∈ δ.new, fresh (subR E acc s0) l = true) ∧ Geq (δ.wr ++ subR E acc s0) (subR (with1 E i) acc s0)
 | [], _, h, _, _ => by simp at h
 | δ :: acc, hlen, h, hp, hF => by
  simp only [pairsB, Bool.and_eq_true] at hp
  obtain ⟨hF1, hF2, hF3, hF4⟩ := hF
  by_cases hi : i = acc.length
  ·subst hi
   obtain ⟨b1, b2⟩ := below (s0 := s0) hup (Nat.le_refl _) hp.1
   refine ⟨δ, [], acc, rfl, rfl, hF1, fun p hp => ?_, fun l hl => ?_, ?_⟩
   ·simp only [subR, hEi]; rw [b1 p hp]; exact hF2 p hp
   ·simp only [subR, hEi]; exact b2 l (hF3 l hl)
   ·simp only [subR, hEi, with1_eq]
    rw [subR_cong (E := with1 E acc.length) (E' := E) fun j hj => with1_ne (by omega)]
    exact Geq.refl _
  ·have hlt : i < acc.length := by simp at h; omega
   have hlen' : acc.length < ms.length := by simp at hlen; omega
   obtain ⟨δi, pre, suf, e1, e2, h1, h2, h3, h4⟩ := turn hEi hup hcl (acc := acc) (s0 := s0) (by omega) hlt hp.2 hF4
   have hw : with1 E i acc.length = E acc.length := with1_ne hi
   refine ⟨δi, δ :: pre, suf, by rw [e1]; rfl, e2, h1, ?_⟩
   cases e : E acc.length with
   | false =>
    simp only [subR, e, hw]
    exact ⟨h2, h3, h4⟩
   | true =>
    have hin : Indep δi δ := by
     rcases pairB_get hp.1 e1 with hb | hb
     ·rw [e2] at hb
      rw [hcl _ hlen' hb e] at hEi; cases hEi
     ·exact hb
    simp only [subR, e, hw]
    refine ⟨fun p hp => ?_, fun l hl => ?_, ?_⟩
    ·rw [get_app (hin.rw p hp)]; exact h2 p hp
    ·rw [fresh_app, Bool.and_eq_true]; exact ⟨hin.na l hl, h3 l hl⟩
    ·exact (geq_swap _ hin.ww).trans (h4.app _)

/-- How many are left. -/
def left (E : Nat → Bool) : Nat → Nat
 | 0 => 0
 | n + 1 => left E n + (match E n with
  | true => 0
  | false => 1)

theorem left_zero {E : Nat → Bool} : ∀ {n : Nat}, left E n = 0 → ∀ i, i < n → E i = true
 | n + 1, h, i, hi => by
  simp only [left] at h
  cases e : E n with
  | false => rw [e] at h; simp at h
  | true =>
   rw [e] at h
   by_cases hin : i = n
   ·subst hin; exact e
   ·exact left_zero (n := n) (by omega) i (by omega)

theorem left_le {E E' : Nat → Bool} (h : ∀ i, E i = true → E' i = true) : ∀ n, left E' n ≤ left E n
 | 0 => Nat.le_refl _
 | n + 1 => by
  have := left_le h n
  simp only [left]
  cases e : E n with
  | true => rw [h n e]; simp; exact this
  | false => cases E' n <;> simp <;> omega

theorem left_lt {E E' : Nat → Bool} (h : ∀ i, E i = true → E' i = true) {i : Nat} (he : E i = false) (he' : E' i = true) : ∀ {n : Nat}, i < n → left E' n < left E n
 | n + 1, hi => by
  simp only [left]
  by_cases hin : i = n
  ·subst hin; rw [he, he']; have := left_le h i; simp; omega
  ·have := left_lt h he he' (n := n) (by omega)
   cases e : E n with
   | true => rw [h n e]; simp; exact this
   | false => cases E' n <;> simp <;> omega

theorem with1_le {E : Nat → Bool} {i j : Nat} (h : E j = true) : with1 E i j = true := by simp [with1, h]

theorem draw_any {P : Program} {n : Nat} {ops : Array Oper} {ms : List Nat} (hms : ms.length = ops.size) {s0 : St} {acc : List Δ} (hacc : acc.length = ops.size) (hp : pairsB ms acc = true) (hF : Facts P n ops s0 acc)
  (hback : ∀ j o, ops[j]? = some o → backB j o.after.toList = true) (hbit : ∀ E, Closed ops E → ∀ j, j < ms.length → ∀ i, Nat.testBit (ms.getD j 0) i = true → E j = true → E i = true)
  {w0 : World} {φ0 : Gh} {Q : Exit → Act → World → Prop} (hQ : ∀ a' m', Rel n w0 φ0 (fullR acc s0) a' m' → Q .normal a' m'.w) : ∀ (fuel : Nat) (listed : Array Bool) (E : Nat → Bool) (a : Act) (m : Mem),
   listed.size = ops.size → (∀ i, i < ops.size → listed.getD i false = E i) → (∀ i, E i = true → i < ops.size) → Closed ops E → left E ops.size ≤ fuel → Rel n w0 φ0 (subR E acc s0) a m → wpAny P .any ops Q fuel listed a m.w := by
 have hdone : ∀ E a m, Closed ops E → (∀ i, i < ops.size → E i = true) → Rel n w0 φ0 (subR E acc s0) a m → Q .normal a m.w := fun E a m hc hall hr => by
  rw [subR_full fun i hi => hall i (by omega)] at hr; exact hQ a m hr
 have hready : ∀ (listed : Array Bool) (E : Nat → Bool), listed.size = ops.size → (∀ i, i < ops.size → listed.getD i false = E i) → Region.ready .any ops listed = [] → ∀ i, i < ops.size → E i = true := by
  intro listed E hsz hE hr i
  induction i using Nat.strongRecOn with
  | _ i ih =>
   intro hi
   cases e : E i with
   | true => rfl
   | false =>
    exfalso
    have : i ∈ Region.ready .any ops listed := by
     refine mem_ready.2 ⟨?_, ops[i], Array.getElem?_eq_getElem hi, fun ed hed hb => ?_⟩
     ·have h1 := hE i hi
      rw [e] at h1
      have hl : i < listed.size := by omega
      simp only [Array.getD_eq_getD_getElem?, Array.getElem?_eq_getElem hl, Option.getD_some] at h1 ⊢
      exact h1
     ·have hlt := List.all_eq_true.1 (hback i _ (Array.getElem?_eq_getElem hi)) ed (Array.mem_toList_iff.2 hed)
      simp only [hb] at hlt
      have hlt := blt_iff.1 hlt
      rw [hE ed.on (by omega)]
      exact ih ed.on hlt (by omega)
    rw [hr] at this
    cases this
 intro fuel
 induction fuel with
 | zero =>
  intro listed E a m hsz hE hEs hc hl hr
  have hall := left_zero (Nat.le_zero.1 hl)
  refine ⟨?_, hdone E a m hc hall hr⟩
  cases hrd : Region.ready .any ops listed with
  | nil => rfl
  | cons i rest =>
   have hi : i ∈ Region.ready .any ops listed := by rw [hrd]; exact List.mem_cons_self
   obtain ⟨h0, o, ho, _⟩ := mem_ready.1 hi
   have hlt := (Array.getElem?_eq_some_iff.1 ho).1
   have h1 := hE i hlt
   rw [hall i hlt] at h1
   have hl : i < listed.size := by omega
   simp only [Array.getD_eq_getD_getElem?, Array.getElem?_eq_getElem hl, Option.getD_some] at h0 h1
   rw [h0] at h1; cases h1
 | succ fuel ih =>
  intro listed E a m hsz hE hEs hc hl hr
  refine ⟨fun h => hdone E a m hc (hready listed E hsz hE h) hr, fun i hi => ?_⟩
  obtain ⟨h0, o, ho, hpre⟩ := mem_ready.1 hi
  have hlt := (Array.getElem?_eq_some_iff.1 ho).1
  have hls : i < listed.size := by omega
  have hEi : E i = false := by
   rw [← hE i hlt]
   simp only [Array.getD_eq_getD_getElem?, Array.getElem?_eq_getElem hls, Option.getD_some] at h0 ⊢
   exact h0
  have hc1 : Closed ops (with1 E i) := by
   intro j o' hj he e hem hb
   by_cases hij : i = j
   ·subst hij
    rw [ho] at hj; injection hj with hj; subst hj
    have hlt' := List.all_eq_true.1 (hback i _ ho) e (Array.mem_toList_iff.2 hem)
    simp only [hb] at hlt'
    have hlt' := blt_iff.1 hlt'
    refine with1_le ?_
    rw [← hE e.on (by omega)]
    exact hpre e hem hb
   ·rw [with1_ne hij] at he
    exact with1_le (hc j o' hj he e hem hb)
  obtain ⟨δ, pre, suf, e1, e2, h1, h2, h3, h4⟩ := turn (s0 := s0) (P := P) (n := n) (ops := ops) (ms := ms) (acc := acc) hEi
   (fun j hj hb => by
    have := hbit _ hc1 i (by omega) j hb (with1_eq E i)
    rwa [with1_ne (by omega)] at this)
   (fun j hj hb he => hbit _ hc j hj i hb he) (by omega) (by omega) hp hF
  refine h1 w0 φ0 _ a m hr h2 (fun l hl => fresh_live (h3 l hl)) Q _ fun a' m' hr' => ?_
  refine ih (listed.setIfInBounds i true) (with1 E i) a' m' (by simp [hsz]) (fun j hj => ?_) (fun j hj => ?_) hc1 ?_ (hr'.geq h4)
  ·by_cases hij : i = j
   ·subst hij; rw [with1_eq]; simp [hls]
   ·rw [with1_ne hij, getD_set_ne false hij]; exact hE j hj
  ·by_cases hij : i = j
   ·omega
   ·rw [with1_ne hij] at hj; exact hEs j hj
  ·have := left_lt (E := E) (E' := with1 E i) (fun j hj => with1_le hj) hEi (with1_eq E i) hlt
   omega

def backAll : List Oper → Nat → Bool
 | [], _ => true
 | o :: os, j => backB j o.after.toList && backAll os (j + 1)

theorem backAll_ok : ∀ {os : List Oper} {j : Nat}, backAll os j = true → ∀ i o, os[i]? = some o → backB (j + i) o.after.toList = true
 | [], _, _, i, o, h => by simp at h
 | o :: os, j, hb, i, o', h => by
  simp only [backAll, Bool.and_eq_true] at hb
  cases i with
  | zero => simp at h; subst h; exact hb.1
  | succ i =>
   have := backAll_ok hb.2 i o' (by simpa using h)
   rwa [show j + 1 + i = j + (i + 1) by omega] at this

/-- A region whose order is drawn. -/
def evDrawn (E : EvOp) {R : Type} (n : Nat) (ops : Array Oper) (s : St) (k : St → Option R) : Option R :=
 match backAll ops.toList 0 with
 | true => evDraw E n ops ops.toList [] s fun acc s' => match pairsB (masks ops.toList []) acc with
  | true => k s'
  | false => none
 | false => none

theorem Rel.drawn {n : Nat} {w0 : World} {φ0 : Gh} {s : St} {a : Act} {m : Mem} (h : Rel n w0 φ0 s a m) (i : Nat) : Rel n w0 φ0 s a { m with w := { m.w with drawn := i } } := by
 have hX : Ext s m s { m with w := { m.w with drawn := i } } (Live s) :=
  ⟨fun _ h _ => ⟨rfl, h⟩, fun id r' _ hr => ⟨r', hr, rfl, rfl, rfl, Nat.le_refl _, fun _ _ _ _ hc => hc, fun _ _ _ hb _ => ⟨rfl, hb⟩⟩, fun b c' _ hc => ⟨c', hc, rfl⟩, fun q i _ hi => hi⟩
 refine h.change (fun _ => rfl) hX (fun id r hr => ?_) (fun b c hc => ?_) (fun _ h _ => ⟨rfl, h⟩) (Nat.le_refl _) rfl rfl rfl (fun id r _ _ hg => ⟨⟨r, hg⟩, rfl⟩) (fun b c hg => .inl ⟨⟨c, hg⟩, rfl⟩)
 ·exact (h.rw id r hr).move (fun _ _ hb _ => ⟨rfl, hb⟩) (fun _ h _ => ⟨rfl, h⟩)
 ·obtain ⟨cs, h1, h2, h3, h4⟩ := h.bx b c hc
  exact ⟨cs, All2.imp (fun l hl b' hb => hb.ext (hX.sub fun q hq => ⟨.b b, .b c, hc, List.mem_flatMap.2 ⟨l, hl, hq⟩⟩)) h1, h2, h3, h4⟩

theorem evDrawn_region {P : Program} (hm : P.follows .mixedOrders = true) {E : EvOp} (hE : EvOpOk P E) {R : Type} {n id : Nat} {ops : Array Oper} {s : St} {k : St → Option R} {r : R} (h : evDrawn E n ops s k = some r) :
  ∃ s', k s' = some r ∧ s <:+ s' ∧ ∀ w0 φ0 a m, Rel n w0 φ0 s a m → ∀ Q : Exit → Act → World → Prop, (∀ a' m', Rel n w0 φ0 s' a' m' → Q .normal a' m'.w) → (Code.region id ops true).wp P Q a m.w := by
 unfold evDrawn at h
 split at h
 ·rename_i hb
  obtain ⟨acc, s', h1, hsf, h2, h3, h4⟩ := evDraw_ok hE (s0 := s) (acc := []) (fun j o hj => by rw [List.length_nil, Nat.zero_add, ← Array.getElem?_toList]; exact hj) trivial (Geq.refl _) (fun _ => rfl) h
  split at h1
  ·rename_i hp
   refine ⟨s', h1, hsf, fun w0 φ0 a m hr Q hQ => wp_region_any hm ?_⟩
   have hml : (masks ops.toList []).length = ops.size := by rw [masks_len]; simp
   have hbk : ∀ j o, ops[j]? = some o → backB j o.after.toList = true := fun j o hj => by
    have := backAll_ok hb j o (by rw [Array.getElem?_toList]; exact hj)
    rwa [Nat.zero_add] at this
   refine draw_any (n := n) (s0 := s) (acc := acc) hml (by rw [h2]; simp) hp h3 hbk (fun E hc j hj i hbi he => ?_) (w0 := w0) (φ0 := φ0) (fun a' m' hr' => hQ a' m' (hr'.geq h4)) ops.size _ (fun _ => false) a { m with w := { m.w with drawn := m.w.drawn + 1 } } (by simp) (fun i hi => by simp [Array.getElem?_replicate, hi]) (fun i hi => by cases hi) (fun j o hj he => by cases he) ?_ ?_
   ·refine masks_bit hc (os := ops.toList) (ms := []) (fun j o hj => ?_) (fun j o hj => ?_) (fun j hj => by simp at hj) j (by rw [masks_len] at hj; exact hj) i hbi he
    ·rw [List.length_nil, Nat.zero_add, ← Array.getElem?_toList]; exact hj
    ·rw [List.length_nil, Nat.zero_add]; exact hbk j o (by rw [← Array.getElem?_toList]; exact hj)
   ·have : ∀ k, left (fun _ => false) k = k := fun k => by induction k with
     | zero => rfl
     | succ k ih => simp only [left, ih]
    rw [this]; exact Nat.le_refl _
   ·rw [subR_none fun i _ => rfl]
    exact hr.drawn _
  ·cases h1
 ·cases h

end Go.Proofs.YthnfghmjipikhaaGreatDoor.Ev
namespace Go.Proofs.YthnfghmjipikhaaGreatDoor.Ev

/-- A cell's pattern: what is data of it. -/
inductive Sp where
 | int (k : IntKind)
 | bool
 | str
 | ro (e : Nat) (k : K)
 | own (c : Nat)
 | nil
 | ptr (b off : Nat)
 | fn (f : Nat)
 | rpt (k : K) (off : Nat)
 | any

/-- A state's pattern: temporaries, boxes, and (behind them) rows. -/
inductive It where
 | t (d : Nat) (agg : Bool) (sps : List Sp)
 | b (d : Nat) (sps : List Sp)
 | r (c e : Nat) (k : K)

@[reducible] def LT : List Sp → Type → Type
 | [], R => R
 | .int _ :: sps, R => Int × LT sps R
 | .bool :: sps, R => Bool × LT sps R
 | .str :: sps, R => ByteArray × LT sps R
 | .ro _ k :: sps, R => List k.T × LT sps R
 | .own _ :: sps, R => LT sps R
 | .nil :: sps, R => LT sps R
 | .ptr _ _ :: sps, R => LT sps R
 | .fn _ :: sps, R => LT sps R
 | .rpt k _ :: sps, R => k.T × LT sps R
 | .any :: sps, R => LT sps R

@[reducible] def ShT : List It → Type
 | [] => Unit
 | .t _ _ sps :: its => LT sps (ShT its)
 | .b _ sps :: its => LT sps (ShT its)
 | .r _ _ k :: its => List k.T × ShT its

abbrev Mp := List (Nat × Option Nat)
def lookM : Mp → Nat → Option (Option Nat)
 | [], _ => none
 | (c, o) :: μ, d => match Nat.beq c d with
  | true => some o
  | false => lookM μ d

def optB : Option Nat → Option Nat → Bool
 | none, none => true
 | some a, some b => Nat.beq a b
 | _, _ => false

def addM (μ : Mp) (c : Nat) (o : Option Nat) : Option Mp := match lookM μ c with
 | none => some ((c, o) :: μ)
 | some o' => match optB o o' with
  | true => some μ
  | false => none

def mapFst {A B M : Type} (f : A → B) : Option (A × M) → Option (B × M)
 | some (x, m) => some (f x, m)
 | none => none

theorem rpt_keep {k : K} {x : k.T} {off : Nat} {m m1 : Mem} {s s1 : St} {v : Value} (h : LfC s m (.rpt k x off) v) (hk : Keeps m.w m1.w m.φ m1.φ) : LfC s1 m1 (.rpt k x off) v := by
 obtain ⟨ad, ds, h1, h2, h3, h4⟩ := h
 have hlen := h1.len
 have hpos := k.sz_pos
 have hlt : ad.block < m.w.heap.size := by
  have := World.block_lt_of_cell? m.w _ (h3 0 ds[0] (by simp [show 0 < ds.length by omega]))
  rwa [add_block] at this
 exact ⟨ad, ds, h1.keep hk, (hk _ h2 hlt).2, fun j u hu => cell_keeps hk (h3 j u hu) (by rw [add_block]; exact h2), h4⟩

def castT (k k' : K) (x : k.T) : Option k'.T := if h : k = k' then some (h ▸ x) else none
theorem castT_some {k k' : K} {x : k.T} {y : k'.T} (h : castT k k' x = some y) : ∃ e : k = k', y = e ▸ x := by
 unfold castT at h
 split at h
 ·rename_i e
  injection h with h
  exact ⟨e, h.symm⟩
 ·cases h

def pLeaves {R : Type} (s : St) : (sps : List Sp) → List Lf → Mp → (Mp → Option (R × Mp)) → Option (LT sps R × Mp)
 | [], [], μ, kk => kk μ
 | .int k :: sps, .int k' n :: ls, μ, kk => match decide (k = k') with
  | true => mapFst (fun x => (n, x)) (pLeaves s sps ls μ kk)
  | false => none
 | .bool :: sps, .bool b :: ls, μ, kk => mapFst (fun x => (b, x)) (pLeaves s sps ls μ kk)
 | .str :: sps, .str b :: ls, μ, kk => mapFst (fun x => (b, x)) (pLeaves s sps ls μ kk)
 | .ro e k :: sps, .ro e' k' xs :: ls, μ, kk => match Nat.beq e e', castR k' k xs with
  | true, some ys => mapFst (fun x => (ys, x)) (pLeaves s sps ls μ kk)
  | _, _ => none
 | .ro e k :: sps, .nil :: ls, μ, kk => mapFst (fun x => ([], x)) (pLeaves s sps ls μ kk)
 | .own c :: sps, .own a :: ls, μ, kk => match s.getR a, addM μ c (some a) with
  | some _, some μ' => pLeaves s sps ls μ' kk
  | _, _ => none
 | .own c :: sps, .nil :: ls, μ, kk => match addM μ c none with
  | some μ' => pLeaves s sps ls μ' kk
  | none => none
 | .nil :: sps, .nil :: ls, μ, kk => pLeaves s sps ls μ kk
 | .ptr b off :: sps, .ptr b' off' :: ls, μ, kk => match Nat.beq b b', Nat.beq off off' with
  | true, true => pLeaves s sps ls μ kk
  | _, _ => none
 | .rpt k off :: sps, .rpt k' x off' :: ls, μ, kk => match Nat.beq off off', castT k' k x with
  | true, some y => mapFst (fun x => (y, x)) (pLeaves s sps ls μ kk)
  | _, _ => none
 | .fn f :: sps, .fn f' :: ls, μ, kk => match Nat.beq f f' with
  | true => pLeaves s sps ls μ kk
  | false => none
 | .any :: sps, _ :: ls, μ, kk => pLeaves s sps ls μ kk
 | _, _, _, _ => none

def fLeaves {R : Type} : (sps : List Sp) → LT sps R → List Lf × R
 | [], x => ([], x)
 | .int k :: sps, x => (.int k x.1 :: (fLeaves sps x.2).1, (fLeaves sps x.2).2)
 | .bool :: sps, x => (.bool x.1 :: (fLeaves sps x.2).1, (fLeaves sps x.2).2)
 | .str :: sps, x => (.str x.1 :: (fLeaves sps x.2).1, (fLeaves sps x.2).2)
 | .ro e k :: sps, x => (.ro e k x.1 :: (fLeaves sps x.2).1, (fLeaves sps x.2).2)
 | .own c :: sps, x => (.own c :: (fLeaves sps x).1, (fLeaves sps x).2)
 | .nil :: sps, x => (.nil :: (fLeaves sps x).1, (fLeaves sps x).2)
 | .ptr b off :: sps, x => (.ptr b off :: (fLeaves sps x).1, (fLeaves sps x).2)
 | .fn f :: sps, x => (.fn f :: (fLeaves sps x).1, (fLeaves sps x).2)
 | .rpt k off :: sps, x => (.rpt k x.1 off :: (fLeaves sps x.2).1, (fLeaves sps x.2).2)
 | .any :: sps, x => (.any :: (fLeaves sps x).1, (fLeaves sps x).2)

def mkAV (agg : Bool) (ls : List Lf) : AV := match agg with
 | true => .agg ls
 | false => match ls with
  | [l] => .one l
  | ls => .agg ls

def pIts (s : St) : (its : List It) → Mp → Option (ShT its × Mp)
 | [], μ => some ((), μ)
 | .t d agg sps :: its, μ => match s.getT d, agg with
  | some (.one l), false => pLeaves s sps [l] μ (pIts s its)
  | some (.agg ls), true => pLeaves s sps ls μ (pIts s its)
  | _, _ => none
 | .b d sps :: its, μ => match s.getB d with
  | some ls => pLeaves s sps ls μ (pIts s its)
  | none => none
 | .r c e k :: its, μ => match lookM μ c with
  | some (some a) => match s.getR a with
   | some row => match Nat.beq row.e e, castL row.k k row.xs with
    | true, some xs => mapFst (fun x => (xs, x)) (pIts s its μ)
    | _, _ => none
   | none => none
  | some none => mapFst (fun x => ([], x)) (pIts s its μ)
  | none => none

def fIts : (its : List It) → ShT its → St
 | [], _ => []
 | .t d agg sps :: its, x => (.t d, some (.t (mkAV agg (fLeaves sps x).1))) :: fIts its (fLeaves sps x).2
 | .b d sps :: its, x => (.b d, some (.b (fLeaves sps x).1)) :: fIts its (fLeaves sps x).2
 | .r c e k :: its, x => (.r c, some (.r ⟨e, k, x.1, 0⟩)) :: fIts its x.2

def It.loc : It → Loc
 | .t d _ _ => .t d
 | .b d _ => .b d
 | .r c _ _ => .r c

theorem fIts_locs : ∀ (its : List It) (x : ShT its), (fIts its x).map (·.1) = its.map It.loc
 | [], _ => rfl
 | .t d agg sps :: its, x => by simp only [fIts, List.map_cons, fIts_locs its]; rfl
 | .b d sps :: its, x => by simp only [fIts, List.map_cons, fIts_locs its]; rfl
 | .r c e k :: its, x => by simp only [fIts, List.map_cons, fIts_locs its]; rfl

def SubM (μ μ' : Mp) : Prop := ∀ c o, lookM μ c = some o → lookM μ' c = some o
theorem SubM.refl (μ : Mp) : SubM μ μ := fun _ _ h => h
theorem SubM.trans {a b c : Mp} (h : SubM a b) (h1 : SubM b c) : SubM a c := fun x o e => h1 x o (h x o e)

theorem optB_ok {a b : Option Nat} (h : optB a b = true) : a = b := by
 cases a <;> cases b <;> simp [optB] at h <;> try rfl
 rw [h]

theorem addM_ok {μ μ' : Mp} {c : Nat} {o : Option Nat} (h : addM μ c o = some μ') : SubM μ μ' ∧ lookM μ' c = some o := by
 unfold addM at h
 split at h
 ·rename_i hn
  injection h with h; subst h
  refine ⟨fun d o' hd => ?_, by simp [lookM]⟩
  simp only [lookM]
  split
  ·rename_i hb
   rw [← Nat.eq_of_beq_eq_true hb, hn] at hd; cases hd
  ·exact hd
 ·rename_i o' ho
  split at h
  ·rename_i hb
   injection h with h; subst h
   exact ⟨SubM.refl _, by rw [ho, optB_ok hb]⟩
  ·cases h

def rhoM (μ : Mp) (ρ : Nat → Value) : Nat → Value := fun c => match lookM μ c with
 | some (some a) => ρ a
 | some none => .slice none 0 0
 | none => ρ c

/-- What holds between the state ahead of a meeting and the one behind it. -/
structure JE (s : St) (m : Mem) (s1 : St) (m1 : Mem) (μ : Mp) : Prop where
 keep : Keeps m.w m1.w m.φ m1.φ
 rho : ∀ c o, lookM μ c = some o → m1.ρ c = match o with
  | some a => m.ρ a
  | none => .slice none 0 0
 box : ∀ b c, s1.get (.b b) = some (.b c) → ∃ c', s.get (.b b) = some (.b c') ∧ m1.β b = m.β b

theorem mapFst_some {A B M : Type} {f : A → B} {o : Option (A × M)} {y : B} {μ : M} (h : mapFst f o = some (y, μ)) : ∃ x, o = some (x, μ) ∧ y = f x := by
 cases o with
 | none => cases h
 | some p => obtain ⟨x, m⟩ := p; simp only [mapFst] at h; injection h with h; injection h with h1 h2; subst h1; subst h2; exact ⟨x, rfl, rfl⟩

theorem pLeaves_ok {R : Type} {s : St} : ∀ {sps : List Sp} {ls : List Lf} {μ μ' : Mp} {kk : Mp → Option (R × Mp)} {x : LT sps R}, pLeaves s sps ls μ kk = some (x, μ') →
  ∃ μ1, kk μ1 = some ((fLeaves sps x).2, μ') ∧ SubM μ μ1 ∧ ∀ m s1 m1 μf, JE s m s1 m1 μf → SubM μ1 μf → ∀ vs, All2 (LfC s m) ls vs → All2 (LfC s1 m1) (fLeaves sps x).1 vs := by
 intro sps
 induction sps with
 | nil =>
  intro ls μ μ' kk x h
  cases ls with
  | nil => exact ⟨μ, h, SubM.refl _, fun m s1 m1 μf _ _ vs hv => by cases vs with
   | nil => trivial
   | cons _ _ => exact hv.elim⟩
  | cons l ls => simp [pLeaves] at h
 | cons sp sps ih =>
  intro ls μ μ' kk x h
  cases ls with
  | nil => cases sp <;> simp [pLeaves] at h
  | cons l ls =>
   have step : ∀ {μ2 : Mp} {y : LT sps R} {l' : Lf}, pLeaves s sps ls μ2 kk = some (y, μ') → SubM μ μ2 → (∀ m s1 m1 μf, JE s m s1 m1 μf → SubM μ2 μf → ∀ v, LfC s m l v → LfC s1 m1 l' v) →
     ∃ μ1, kk μ1 = some ((fLeaves sps y).2, μ') ∧ SubM μ μ1 ∧ ∀ m s1 m1 μf, JE s m s1 m1 μf → SubM μ1 μf → ∀ vs, All2 (LfC s m) (l :: ls) vs → All2 (LfC s1 m1) (l' :: (fLeaves sps y).1) vs := by
    intro μ2 y l' hy hsub hl
    obtain ⟨μ1, h1, h2, h3⟩ := ih hy
    refine ⟨μ1, h1, hsub.trans h2, fun m s1 m1 μf hj hs vs hv => ?_⟩
    cases vs with
    | nil => exact hv.elim
    | cons v vs => exact ⟨hl m s1 m1 μf hj (h2.trans hs) v hv.1, h3 m s1 m1 μf hj hs vs hv.2⟩
   cases sp with
   | int k =>
    cases l <;> simp only [pLeaves] at h <;> try (cases h; done)
    split at h
    ·rename_i hk
     have hk := of_decide_eq_true hk
     subst hk
     obtain ⟨y, hy, rfl⟩ := mapFst_some h
     exact step hy (SubM.refl _) fun m s1 m1 μf _ _ v hv => hv
    ·cases h
   | bool =>
    cases l <;> simp only [pLeaves] at h <;> try (cases h; done)
    obtain ⟨y, hy, rfl⟩ := mapFst_some h
    exact step hy (SubM.refl _) fun m s1 m1 μf _ _ v hv => hv
   | str =>
    cases l <;> simp only [pLeaves] at h <;> try (cases h; done)
    obtain ⟨y, hy, rfl⟩ := mapFst_some h
    exact step hy (SubM.refl _) fun m s1 m1 μf _ _ v hv => hv
   | ro e k =>
    cases l <;> simp only [pLeaves] at h <;> try (cases h; done)
    ·obtain ⟨y, hy, rfl⟩ := mapFst_some h
     exact step hy (SubM.refl _) fun m s1 m1 μf _ _ v hv => by
      simp only [LfC] at hv; subst hv
      exact ⟨none, 0, rfl, Nat.le_refl _, Nat.zero_le _, fun h => by simp at h⟩
    ·split at h
     ·rename_i ys hb hcast
      obtain ⟨y, hy, rfl⟩ := mapFst_some h
      have hb := Nat.eq_of_beq_eq_true hb
      subst hb
      exact step hy (SubM.refl _) fun m s1 m1 μf hj _ v hv => Ro.keep (k := .rs e k) (castR_ro (e := e) hcast hv) hj.keep
     ·cases h
   | own c =>
    cases l <;> simp only [pLeaves] at h <;> try (cases h; done)
    ·split at h
     ·rename_i μ2 ha
      obtain ⟨h1, h2⟩ := addM_ok ha
      exact step h h1 fun m s1 m1 μf hj hs v hv => by
       simp only [LfC] at hv; subst hv
       exact ⟨rfl, fun r hr => (hj.rho c none (hs _ _ h2)).symm⟩
     ·cases h
    ·split at h
     ·rename_i row μ2 hrow ha
      obtain ⟨h1, h2⟩ := addM_ok ha
      exact step h h1 fun m s1 m1 μf hj hs v hv => by
       refine ⟨hv.1, fun r hr => ?_⟩
       rw [hv.2 row (St.getR_some.1 hrow)]
       exact (hj.rho c _ (hs _ _ h2)).symm
     ·cases h
   | nil =>
    cases l <;> simp only [pLeaves] at h <;> try (cases h; done)
    exact step h (SubM.refl _) fun m s1 m1 μf _ _ v hv => hv
   | ptr b off =>
    cases l <;> simp only [pLeaves] at h <;> try (cases h; done)
    split at h
    ·rename_i h1 h2
     have h1 := Nat.eq_of_beq_eq_true h1
     have h2 := Nat.eq_of_beq_eq_true h2
     subst h1; subst h2
     exact step h (SubM.refl _) fun m s1 m1 μf hj _ v hv => ⟨hv.1, fun c hc => by
      obtain ⟨c', hc', e⟩ := hj.box _ c hc
      rw [e]; exact hv.2 c' hc'⟩
    ·cases h
   | rpt k off =>
    cases l <;> simp only [pLeaves] at h <;> try (cases h; done)
    split at h
    ·rename_i y0 hb hcast
     obtain ⟨y, hy, rfl⟩ := mapFst_some h
     have hb := Nat.eq_of_beq_eq_true hb
     subst hb
     obtain ⟨ek, rfl⟩ := castT_some hcast
     subst ek
     exact step hy (SubM.refl _) fun m s1 m1 μf hj _ v hv => by
      exact rpt_keep hv hj.keep
    ·cases h
   | fn f =>
    cases l <;> simp only [pLeaves] at h <;> try (cases h; done)
    split at h
    ·rename_i h1
     have h1 := Nat.eq_of_beq_eq_true h1
     subst h1
     exact step h (SubM.refl _) fun m s1 m1 μf _ _ v hv => hv
    ·cases h
   | any =>
    simp only [pLeaves] at h
    exact step h (SubM.refl _) fun m s1 m1 μf _ _ v hv => hv.one

end Go.Proofs.YthnfghmjipikhaaGreatDoor.Ev
namespace Go.Proofs.YthnfghmjipikhaaGreatDoor.Ev

/-- What a filled state's places hold. -/
def FillOk (s : St) (m : Mem) (s1 : St) (m1 : Mem) (a : Act) (μ : Mp) : It → LV → Prop
 | .t d _ _, lv => ∃ v, lv = .t v ∧ (∀ u, s.get (.t d) = some (.t u) → AVC s m u (a.tmps.getD d undef) → AVC s1 m1 v (a.tmps.getD d undef)) ∧ ∃ u, s.get (.t d) = some (.t u)
 | .b d _, lv => ∃ c c', lv = .b c ∧ s.get (.b d) = some (.b c') ∧ ∀ vs, All2 (LfC s m) c' vs → All2 (LfC s1 m1) c vs
 | .r c e k, lv => ∃ xs : List k.T, lv = .r ⟨e, k, xs, 0⟩ ∧ OwL (Ow k m1.w m1.φ) e k.sz m1.w m1.φ [2 * c] xs (m1.ρ c) ∧
   ∀ a0, lookM μ c = some (some a0) → ∃ row, s.get (.r a0) = some (.r row) ∧ row.k.sz = k.sz ∧ row.xs.length = xs.length

/-- The rows' side: those that are named move to their new colours. -/
structure JR (s : St) (m : Mem) (m1 : Mem) (μ : Mp) : Prop where
 row : ∀ c a row, lookM μ c = some (some a) → s.get (.r a) = some (.r row) → OwL (Ow row.k m1.w m1.φ) row.e row.k.sz m1.w m1.φ [2 * c] row.xs (m.ρ a)

theorem len_of_all2 {α β : Type} {R : α → β → Prop} {aas : List α} {bs : List β} (h : All2 R aas bs) : aas.length = bs.length := h.len

theorem pIts_ok {s : St} : ∀ {its : List It} {μ μ' : Mp} {x : ShT its}, pIts s its μ = some (x, μ') → SubM μ μ' ∧ ∀ m s1 m1 a, JE s m s1 m1 μ' → JR s m m1 μ' → 
   All2 (FillOk s m s1 m1 a μ') its ((fIts its x).map fun p => p.2.getD (.x 0)) ∧ ∀ p ∈ fIts its x, p.2.isSome = true
 | [], μ, μ', x, h => by
  simp only [pIts] at h; injection h with h; injection h with h1 h2; subst h2
  exact ⟨SubM.refl _, fun m s1 m1 a _ _ => ⟨trivial, fun p hp => nomatch hp⟩⟩
 | .t d agg sps :: its, μ, μ', x, h => by
  simp only [pIts] at h
  split at h
  ·rename_i l hg
   obtain ⟨μ1, h1, h2, h3⟩ := pLeaves_ok h
   obtain ⟨h4, h5⟩ := pIts_ok h1
   refine ⟨h2.trans h4, fun m s1 m1 a hj hr => ?_⟩
   obtain ⟨h6, h7⟩ := h5 m s1 m1 a hj hr
   refine ⟨⟨⟨_, rfl, fun u hu hv => ?_, ⟨_, St.getT_some.1 hg⟩⟩, h6⟩, fun p hp => ?_⟩
   ·rw [St.getT_some.1 hg] at hu; injection hu with hu; injection hu with hu; subst hu
    have hl := h3 m s1 m1 μ' hj h4 [a.tmps.getD d undef] ⟨hv, trivial⟩
    cases e : (fLeaves sps x).1 with
    | nil => rw [e] at hl; exact hl.elim
    | cons l' ls' =>
     rw [e] at hl
     cases ls' with
     | cons _ _ => exact hl.2.elim
     | nil => exact hl.1
   ·rcases List.mem_cons.1 hp with rfl | hp
    ·rfl
    ·exact h7 p hp
  ·rename_i ls hg
   obtain ⟨μ1, h1, h2, h3⟩ := pLeaves_ok h
   obtain ⟨h4, h5⟩ := pIts_ok h1
   refine ⟨h2.trans h4, fun m s1 m1 a hj hr => ?_⟩
   obtain ⟨h6, h7⟩ := h5 m s1 m1 a hj hr
   refine ⟨⟨⟨_, rfl, fun u hu hv => ?_, ⟨_, St.getT_some.1 hg⟩⟩, h6⟩, fun p hp => ?_⟩
   ·rw [St.getT_some.1 hg] at hu; injection hu with hu; injection hu with hu; subst hu
    obtain ⟨cs, hcs, hv⟩ := hv
    exact ⟨cs, hcs, h3 m s1 m1 μ' hj h4 cs hv⟩
   ·rcases List.mem_cons.1 hp with rfl | hp
    ·rfl
    ·exact h7 p hp
  ·cases h
 | .b d sps :: its, μ, μ', x, h => by
  simp only [pIts] at h
  split at h
  ·rename_i ls hg
   obtain ⟨μ1, h1, h2, h3⟩ := pLeaves_ok h
   obtain ⟨h4, h5⟩ := pIts_ok h1
   refine ⟨h2.trans h4, fun m s1 m1 a hj hr => ?_⟩
   obtain ⟨h6, h7⟩ := h5 m s1 m1 a hj hr
   refine ⟨⟨⟨_, ls, rfl, St.getB_some.1 hg, fun vs hv => h3 m s1 m1 μ' hj h4 vs hv⟩, h6⟩, fun p hp => ?_⟩
   rcases List.mem_cons.1 hp with rfl | hp
   ·rfl
   ·exact h7 p hp
  ·cases h
 | .r c e k :: its, μ, μ', x, h => by
  simp only [pIts] at h
  split at h
  ·rename_i a0 hm
   split at h
   ·rename_i row hg
    split at h
    ·rename_i xs hb hcast
     obtain ⟨y, hy, rfl⟩ := mapFst_some h
     obtain ⟨h4, h5⟩ := pIts_ok hy
     refine ⟨h4, fun m s1 m1 a hj hr => ?_⟩
     obtain ⟨h6, h7⟩ := h5 m s1 m1 a hj hr
     have hb := Nat.eq_of_beq_eq_true hb
     obtain ⟨ek, rfl⟩ := castL_some hcast
     refine ⟨⟨⟨_, rfl, ?_, fun a1 ha1 => ?_⟩, h6⟩, fun p hp => ?_⟩
     ·have h8 := hr.row c a0 row (h4 _ _ hm) (St.getR_some.1 hg)
      rw [hj.rho c _ (h4 _ _ hm)]
      subst hb; subst ek
      exact h8
     ·rw [h4 _ _ hm] at ha1
      injection ha1 with ha1; injection ha1 with ha1; subst ha1
      subst ek
      exact ⟨row, St.getR_some.1 hg, rfl, rfl⟩
     ·rcases List.mem_cons.1 hp with rfl | hp
      ·rfl
      ·exact h7 p hp
    ·cases h
   ·cases h
  ·rename_i hm
   obtain ⟨y, hy, rfl⟩ := mapFst_some h
   obtain ⟨h4, h5⟩ := pIts_ok hy
   refine ⟨h4, fun m s1 m1 a hj hr => ?_⟩
   obtain ⟨h6, h7⟩ := h5 m s1 m1 a hj hr
   refine ⟨⟨⟨_, rfl, ?_, fun a1 ha1 => by rw [h4 _ _ hm] at ha1; injection ha1 with ha1; cases ha1⟩, h6⟩, fun p hp => ?_⟩
   ·rw [hj.rho c _ (h4 _ _ hm)]
    exact ⟨[], owns_nil _ _ _ _, fun g hg => by simp [Value.ownBlock] at hg, fun i h => by simp at h⟩
   ·rcases List.mem_cons.1 hp with rfl | hp
    ·rfl
    ·exact h7 p hp
  ·cases h

/-- Each place that is filled holds what it should. -/
theorem fill_get {s : St} {m : Mem} {s1 : St} {m1 : Mem} {a : Act} {μ : Mp} : ∀ {its : List It} {x : ShT its} {l : Loc} {lv : LV} {rest : St}, All2 (FillOk s m s1 m1 a μ) its ((fIts its x).map fun p => p.2.getD (.x 0)) → (∀ p ∈ fIts its x, p.2.isSome = true) →
  St.get (fIts its x ++ rest) l = some lv → (∃ it ∈ its, it.loc = l ∧ FillOk s m s1 m1 a μ it lv) ∨ ((∀ it ∈ its, it.loc ≠ l) ∧ St.get rest l = some lv) := by
 intro its x
 have hlocs := fIts_locs its x
 generalize fIts its x = W at *
 clear x
 induction its generalizing W with
 | nil =>
  intro l lv rest _ _ hg
  have : W = [] := by simpa using hlocs
  subst this
  exact .inr ⟨fun it hi => (nomatch hi), hg⟩
 | cons it its ih =>
  intro l lv rest hA hS hg
  cases W with
  | nil => simp at hlocs
  | cons w W =>
   simp only [List.map_cons] at hlocs hA
   injection hlocs with hl1 hl2
   obtain ⟨wl, wv⟩ := w
   simp only at hl1
   by_cases e : wl = l
   ·subst e
    rw [List.cons_append, St.get_cons_same] at hg
    have := hS _ List.mem_cons_self
    simp only [hg, Option.getD_some] at hA
    exact .inl ⟨it, List.mem_cons_self, hl1.symm, hA.1⟩
   ·rw [List.cons_append, St.get_cons_ne e] at hg
    rcases ih W hl2 hA.2 (fun p hp => hS p (List.mem_cons_of_mem _ hp)) hg with ⟨it', h1, h2⟩ | ⟨h1, h2⟩
    ·exact .inl ⟨it', List.mem_cons_of_mem _ h1, h2⟩
    ·refine .inr ⟨fun it' hi => ?_, h2⟩
     rcases List.mem_cons.1 hi with rfl | hi
     ·exact fun h => e (hl1.trans h)
     ·exact h1 it' hi

def tombs (dead : List Loc) : St := dead.map fun l => (l, none)

theorem tombs_get {dead : List Loc} {rest : St} {l : Loc} {lv : LV} (h : St.get (tombs dead ++ rest) l = some lv) : l ∉ dead ∧ St.get rest l = some lv := by
 induction dead with
 | nil => exact ⟨by simp, h⟩
 | cons d dead ih =>
  simp only [tombs, List.map_cons, List.cons_append] at h
  by_cases e : d = l
  ·subst e; rw [St.get_cons_same] at h; cases h
  ·rw [St.get_cons_ne e] at h
   obtain ⟨h1, h2⟩ := ih h
   exact ⟨fun hm => (List.mem_cons.1 hm).elim (fun h => e h.symm) h1, h2⟩

def locB (W : List Loc) (l : Loc) : Bool := W.any (Loc.eqb · l)
theorem locB_ok {W : List Loc} {l : Loc} (h : locB W l = true) : l ∈ W := by
 obtain ⟨w, hw, e⟩ := List.any_eq_true.1 h
 rw [← Loc.eqb_iff.1 e]; exact hw

def actM (μ : Mp) : List Nat := μ.filterMap (·.2)

/-- The leaves of what is told. -/
def AV.lfs : AV → List Lf
 | .one l => [l]
 | .agg ls => ls
 | .tup ps => ps.flatMap (·.2)
 | .und => []
def LV.lfs : LV → List Lf
 | .t v => v.lfs
 | .b c => c
 | _ => []

theorem lfs_men {lv : LV} {l : Lf} (h : l ∈ lv.lfs) {q : Loc} (hq : q ∈ l.men) : q ∈ lv.men := by
 cases lv with
 | t v =>
  cases v with
  | one l' => simp only [LV.lfs, AV.lfs, List.mem_singleton] at h; subst h; exact hq
  | agg ls => exact List.mem_flatMap.2 ⟨l, h, hq⟩
  | tup ps =>
   obtain ⟨p, hp, hl⟩ := List.mem_flatMap.1 h
   exact List.mem_flatMap.2 ⟨p, hp, List.mem_flatMap.2 ⟨l, hl, hq⟩⟩
  | und => cases h
 | b c => exact List.mem_flatMap.2 ⟨l, h, hq⟩
 | r row => cases h
 | x i => cases h

theorem AVC.lfs {s : St} {m : Mem} {s1 : St} {m1 : Mem} {v : AV} {x : Value} (h : AVC s m v x) (hl : ∀ l ∈ v.lfs, ∀ y, LfC s m l y → LfC s1 m1 l y) : AVC s1 m1 v x := by
 cases v with
 | one l => exact hl l (by simp [AV.lfs]) x h
 | agg ls =>
  obtain ⟨cs, rfl, h⟩ := h
  exact ⟨cs, rfl, All2.imp (fun l hm b hb => hl l hm b hb) h⟩
 | tup ps =>
  obtain ⟨vs, rfl, h⟩ := h
  refine ⟨vs, rfl, All2.imp (fun p hp b hb => ?_) h⟩
  have hsub : ∀ l ∈ p.2, ∀ y, LfC s m l y → LfC s1 m1 l y := fun l hm => hl l (List.mem_flatMap.2 ⟨p, hp, hm⟩)
  obtain ⟨f, ls⟩ := p
  cases f with
  | true => obtain ⟨cs, rfl, h⟩ := hb; exact ⟨cs, rfl, All2.imp (fun l hm b hb => hsub l hm b hb) h⟩
  | false => obtain ⟨l, rfl, h⟩ := hb; exact ⟨l, rfl, hsub l (by simp) _ h⟩
 | und => exact h

def subOf (id : Nat) : Lf → Bool
 | .sub i _ _ _ => Nat.beq i id
 | .ext i _ _ _ _ _ _ _ => Nat.beq i id
 | _ => false

/-- No one tells of what lies in the row's elements. -/
def noSub (s : St) (id : Nat) : Bool := s.all fun p => match p.2 with
 | some lv => lv.lfs.all fun l => !(subOf id l)
 | none => true

theorem noSub_ok {s : St} {id : Nat} (h : noSub s id = true) {l0 : Loc} {lv : LV} (hg : s.get l0 = some lv) {q off ver : Nat} (hm : Lf.sub id q off ver ∈ lv.lfs) : False := by
 have h1 := List.all_eq_true.1 h _ (get_mem hg)
 have h2 := List.all_eq_true.1 h1 _ hm
 simp [subOf] at h2
theorem noExt_ok {s : St} {id : Nat} (h : noSub s id = true) {l0 : Loc} {lv : LV} (hg : s.get l0 = some lv) {q off ver : Nat} {p : List Nat} {e : Nat} {k : K} {zs : List k.T} (hm : Lf.ext id q off ver p e k zs ∈ lv.lfs) : False := by
 have h1 := List.all_eq_true.1 h _ (get_mem hg)
 have h2 := List.all_eq_true.1 h1 _ hm
 simp [subOf] at h2

def sameB (p : Nat × Option Nat) : Bool := match p.2 with
 | some a => Nat.beq a p.1
 | none => false

theorem sameB_ok {c : Nat} {o : Option Nat} (h : sameB (c, o) = true) : o = some c := by
 unfold sameB at h
 split at h
 ·rename_i a e
  simp only at e
  rw [e, Nat.eq_of_beq_eq_true h]
 ·cases h

/-- Rows of the map: the old names are apart, each is written over; the new names are known to nobody. -/
def mapOk (W : List Loc) (s : St) (μ : Mp) : Bool :=
 nodupB (actM μ) && (actM μ).all (fun a => locB W (.r a)) && μ.all fun p => (match sameB p with
  | true => noSub s p.1
  | false => fresh s (.r p.1) && (Nat.blt p.1 1000 || Nat.ble 4096 p.1)) && locB W (.r p.1)

/-- Rows of the pattern that are there under their own numbers keep them. -/
def keepM (s : St) : List It → Mp
 | [] => []
 | .r c _ _ :: its => match s.getR c with
  | some _ => (c, some c) :: keepM s its
  | none => keepM s its
 | _ :: its => keepM s its

def joinS0 (its : List It) (dead : List Loc) (s s' : St) : Option (ShT its) :=
 match pIts s' its (keepM s its) with
 | some (x, μ) => match (s'.take (s'.length - s.length)).all (fun p => locB (its.map It.loc ++ dead) p.1), mapOk (its.map It.loc ++ dead) s μ with
  | true, true => some x
  | _, _ => none
 | none => none

def fillS (its : List It) (dead : List Loc) (s : St) (x : ShT its) : St := fIts its x ++ (tombs dead ++ s)

theorem fillS_suffix (its : List It) (dead : List Loc) (s : St) (x : ShT its) : s <:+ fillS its dead s x := by
 unfold fillS; exact (List.suffix_append _ _).trans (List.suffix_append _ _)

def tgM (μ : Mp) : Tg := μ.filterMap fun p => match p.2 with
 | some a => some (a, fun q => some (2 * p.1 :: q))
 | none => none

theorem lookM_mem : ∀ {μ : Mp} {c : Nat} {o : Option Nat}, lookM μ c = some o → (c, o) ∈ μ
 | [], _, _, h => by cases h
 | (c0, o0) :: μ, c, o, h => by
  simp only [lookM] at h
  split at h
  ·rename_i hb
   injection h with h; subst h
   rw [Nat.eq_of_beq_eq_true hb]; exact List.mem_cons_self
  ·exact List.mem_cons_of_mem _ (lookM_mem h)

theorem nodupB_nodup {l : List Nat} (h : nodupB l = true) : l.Nodup := by
 induction l with
 | nil => exact List.nodup_nil
 | cons a l ih =>
  obtain ⟨h1, h2⟩ := nodupB_cons h
  exact List.nodup_cons.2 ⟨h1, ih h2⟩

theorem tgM_look : ∀ {μ : Mp}, nodupB (actM μ) = true → ∀ {c a : Nat}, (c, some a) ∈ μ → lookR (tgM μ) (2 * a) = some (fun q => some (2 * c :: q))
 | [], _, _, _, h => nomatch h
 | (c0, o0) :: μ, hn, c, a, h => by
  cases o0 with
  | none =>
   have hn' : nodupB (actM μ) = true := by simpa [actM] using hn
   rcases List.mem_cons.1 h with e | h
   ·injection e with _ e; cases e
   ·have := tgM_look hn' h
    simpa [tgM] using this
  | some a0 =>
   have hn' : nodupB (a0 :: actM μ) = true := by simpa [actM] using hn
   obtain ⟨hni, hn'⟩ := nodupB_cons hn'
   rcases List.mem_cons.1 h with e | h
   ·injection e with e1 e2; injection e2 with e2; subst e1; subst e2
    simp [tgM, lookR]
   ·have hne : ¬ 2 * a0 = 2 * a := by
     intro e
     refine hni (List.mem_filterMap.2 ⟨(c, some a), h, ?_⟩)
     simp; omega
    have := tgM_look hn' h
    simp only [tgM] at this
    simp only [tgM, List.filterMap_cons, lookR, if_neg hne]
    exact this

theorem tgM_none {μ : Mp} {r : Nat} (h : ∀ a ∈ actM μ, 2 * a ≠ r) : lookR (tgM μ) r = none := by
 refine lookR_none fun v hv => ?_
 obtain ⟨⟨c, o⟩, hm, e⟩ := List.mem_filterMap.1 hv
 cases o with
 | none => cases e
 | some a =>
  simp only at e; injection e with e; subst e
  exact h a (List.mem_filterMap.2 ⟨(c, some a), hm, rfl⟩)

theorem pLeaves_kk {R : Type} {s : St} {sps : List Sp} {ls : List Lf} {μ μ' : Mp} {kk : Mp → Option (R × Mp)} {x : LT sps R} (h : pLeaves s sps ls μ kk = some (x, μ')) :
  ∃ μ1 y, kk μ1 = some (y, μ') := let ⟨μ1, h1, _⟩ := pLeaves_ok h; ⟨μ1, _, h1⟩

theorem pIts_box {s : St} : ∀ {its : List It} {μ μ' : Mp} {x : ShT its}, pIts s its μ = some (x, μ') → ∀ d sps, It.b d sps ∈ its → ∃ c, s.get (.b d) = some (.b c)
 | .t d agg sps :: its, μ, μ', x, h, d', sps', hm => by
  have hm2 := (List.mem_cons.1 hm).resolve_left (by simp)
  simp only [pIts] at h
  split at h
  ·obtain ⟨_, _, h1⟩ := pLeaves_kk h; exact pIts_box h1 d' sps' hm2
  ·obtain ⟨_, _, h1⟩ := pLeaves_kk h; exact pIts_box h1 d' sps' hm2
  ·cases h
 | .b d sps :: its, μ, μ', x, h, d', sps', hm => by
  simp only [pIts] at h
  split at h
  ·rename_i ls hg
   rcases List.mem_cons.1 hm with e | hm
   ·injection e with e _; subst e; exact ⟨ls, St.getB_some.1 hg⟩
   ·obtain ⟨_, _, h1⟩ := pLeaves_kk h; exact pIts_box h1 d' sps' hm
  ·cases h
 | .r c e k :: its, μ, μ', x, h, d', sps', hm => by
  have hm2 := (List.mem_cons.1 hm).resolve_left (by simp)
  simp only [pIts] at h
  split at h
  ·split at h
   ·split at h
    ·obtain ⟨y, hy, _⟩ := mapFst_some h; exact pIts_box hy d' sps' hm2
    ·cases h
   ·cases h
  ·obtain ⟨y, hy, _⟩ := mapFst_some h; exact pIts_box hy d' sps' hm2
  ·cases h

theorem not_inW_fIts {its : List It} {x : ShT its} {l : Loc} (h : ∀ it ∈ its, it.loc ≠ l) : inW (fIts its x) l = false := by
 cases e : inW (fIts its x) l with
 | false => rfl
 | true =>
  obtain ⟨w, hw, rfl⟩ := inW_mem e
  have : w.1 ∈ its.map It.loc := by rw [← fIts_locs its x]; exact List.mem_map.2 ⟨w, hw, rfl⟩
  obtain ⟨it, hi, e⟩ := List.mem_map.1 this
  exact absurd e (h it hi)

/-- In a filled state a place is one of the pattern's, or it is as it was. -/
theorem fillS_get {its : List It} {dead : List Loc} {s : St} {x : ShT its} {l : Loc} {lv : LV} (h : St.get (fillS its dead s x) l = some lv) :
  (∃ it ∈ its, it.loc = l) ∨ (l ∉ its.map It.loc ++ dead ∧ s.get l = some lv) := by
 by_cases hl : ∃ it ∈ its, it.loc = l
 ·exact .inl hl
 ·have hl' : ∀ it ∈ its, it.loc ≠ l := fun it hi e => hl ⟨it, hi, e⟩
  unfold fillS at h
  rw [get_app (not_inW_fIts hl')] at h
  obtain ⟨h1, h2⟩ := tombs_get h
  refine .inr ⟨fun hm => ?_, h2⟩
  rcases List.mem_append.1 hm with hm | hm
  ·obtain ⟨it, hi, e⟩ := List.mem_map.1 hm
   exact hl' it hi e
  ·exact h1 hm

theorem joinS0_ok {its : List It} {dead : List Loc} {s s' : St} {x : ShT its} (h : joinS0 its dead s s' = some x) (hs : s <:+ s') {n : Nat} {w0 : World} {φ0 : Gh} {a : Act} {m : Mem} (hr : Rel n w0 φ0 s' a m) :
  ∃ m1, m1.w = m.w ∧ Rel n w0 φ0 (fillS its dead s x) a m1 := by
 unfold joinS0 at h
 split at h
 ·rename_i x' μ hp
  split at h
  ·rename_i hW hM
   injection h with h; subst h
   obtain ⟨pre, rfl⟩ := hs
   rw [List.length_append, Nat.add_sub_cancel, List.take_left] at hW
   simp only [mapOk, Bool.and_eq_true] at hM
   obtain ⟨⟨hM1, hM2⟩, hM3⟩ := hM
   let m1 : Mem := ⟨m.w, recol (tgM μ) m.φ, rhoM μ m.ρ, m.β⟩
   refine ⟨m1, rfl, ?_⟩
   obtain ⟨_, hfill⟩ := pIts_ok hp
   have hbase : ∀ l, l ∉ its.map It.loc ++ dead → St.get (pre ++ s) l = s.get l := fun l hl => get_app (by
    cases e : inW pre l with
    | false => rfl
    | true =>
     obtain ⟨w, hw, rfl⟩ := inW_mem e
     exact absurd (locB_ok (List.all_eq_true.1 hW w hw)) hl)
   have hW2 : ∀ c o, lookM μ c = some o → Loc.r c ∈ its.map It.loc ++ dead := by
    intro c o hc
    have := List.all_eq_true.1 hM3 _ (lookM_mem hc)
    simp only [Bool.and_eq_true] at this
    exact locB_ok this.2
   have hnone : ∀ c o, lookM μ c = some o → (o = some c ∧ noSub s c = true) ∨ ((∀ l lv, s.get l = some lv → Loc.r c ∉ lv.men) ∧ (c < 1000 ∨ 4096 ≤ c)) := by
    intro c o hc
    have := List.all_eq_true.1 hM3 _ (lookM_mem hc)
    simp only [Bool.and_eq_true] at this
    have h1 := this.1
    split at h1
    ·rename_i hs; exact .inl ⟨sameB_ok hs, h1⟩
    ·simp only [Bool.and_eq_true, Bool.or_eq_true] at h1
     exact .inr ⟨fun l lv hg hm => fresh_live h1.1 ⟨l, lv, hg, hm⟩, h1.2.imp blt_iff.1 Nat.le_of_ble_eq_true⟩
   have hkeep : Keeps m.w m1.w m.φ m1.φ := recol_keeps _ _ _
   have hact : ∀ a, a ∈ actM μ → Loc.r a ∈ its.map It.loc ++ dead := fun a ha => locB_ok (List.all_eq_true.1 hM2 a ha)
   have hJE : JE (pre ++ s) m (fillS its dead s x') m1 μ := by
    refine ⟨hkeep, fun c o hc => ?_, fun b c hg => ?_⟩
    ·show rhoM μ m.ρ c = _
     simp only [rhoM, hc]
     cases o <;> rfl
    ·rcases fillS_get hg with ⟨it, hi, e⟩ | ⟨h1, h2⟩
     ·cases it with
      | t d ag sps => cases e
      | r c' e' k' => cases e
      | b d sps =>
       injection e with e; subst e
       obtain ⟨c', hc'⟩ := pIts_box hp d sps hi
       exact ⟨c', hc', rfl⟩
     ·exact ⟨c, by rw [hbase _ h1]; exact h2, rfl⟩
   have hJR : JR (pre ++ s) m m1 μ := ⟨fun c a0 row hc hg => by
    have hm := recol_moves (w := m.w) (φ := m.φ) (tg := tgM μ) (id := a0) (p := []) (p' := [2 * c]) (tgM_look hM1 (lookM_mem hc)) (fun q => rfl)
    exact (hr.rw a0 row hg).move hm hkeep⟩
   obtain ⟨hA, hS⟩ := hfill m (fillS its dead s x') m1 a hJE hJR
   have hmapped : ∀ c' e' k', It.r c' e' k' ∈ its → ∃ o, lookM μ c' = some o := by
    intro c' e' k' hmem
    have key : ∀ {its : List It} {μ0 μ' : Mp} {x : ShT its}, pIts (pre ++ s) its μ0 = some (x, μ') → It.r c' e' k' ∈ its → ∃ o, lookM μ' c' = some o := by
     intro its
     induction its with
     | nil => intro μ0 μ' x _ h; cases h
     | cons it its ih =>
      intro μ0 μ' x h hm
      cases it with
      | t d ag sps =>
       have hm2 := (List.mem_cons.1 hm).resolve_left (by simp)
       simp only [pIts] at h
       split at h
       ·obtain ⟨_, _, h1⟩ := pLeaves_kk h; exact ih h1 hm2
       ·obtain ⟨_, _, h1⟩ := pLeaves_kk h; exact ih h1 hm2
       ·cases h
      | b d sps =>
       have hm2 := (List.mem_cons.1 hm).resolve_left (by simp)
       simp only [pIts] at h
       split at h
       ·obtain ⟨_, _, h1⟩ := pLeaves_kk h; exact ih h1 hm2
       ·cases h
      | r c2 e2 k2 =>
       have hsub := (pIts_ok h).1
       simp only [pIts] at h
       rcases List.mem_cons.1 hm with e | hm
       ·injection e with e _; subst e
        split at h
        ·rename_i hc; exact ⟨_, hsub _ _ hc⟩
        ·rename_i hc; exact ⟨_, hsub _ _ hc⟩
        ·cases h
       ·split at h
        ·split at h
         ·split at h
          ·obtain ⟨y, hy, _⟩ := mapFst_some h; exact ih hy hm
          ·cases h
         ·cases h
        ·obtain ⟨y, hy, _⟩ := mapFst_some h; exact ih hy hm
        ·cases h
    exact key hp hmem
   have hold : ∀ l lv, St.get (fillS its dead s x') l = some lv → (∃ it ∈ its, it.loc = l ∧ FillOk (pre ++ s) m (fillS its dead s x') m1 a μ it lv) ∨ (l ∉ its.map It.loc ++ dead ∧ s.get l = some lv ∧ St.get (pre ++ s) l = some lv) := by
    intro l lv hg
    rcases fill_get (rest := tombs dead ++ s) hA hS hg with h1 | ⟨h1, h2⟩
    ·exact .inl h1
    ·rcases fillS_get hg with ⟨it, hi, e⟩ | ⟨h3, h4⟩
     ·exact absurd e (h1 it hi)
     ·exact .inr ⟨h3, h4, by rw [hbase _ h3]; exact h4⟩
   -- values that nobody wrote
   have hL : ∀ l0 lv0, s.get l0 = some lv0 → ∀ l ∈ lv0.lfs, ∀ v, LfC (pre ++ s) m l v → LfC (fillS its dead s x') m1 l v := by
    intro l0 lv0 hg0 l hl v hv
    have hrow : ∀ id r', Loc.r id ∈ l.men → St.get (fillS its dead s x') (.r id) = some (.r r') → ∃ r, St.get (pre ++ s) (.r id) = some (.r r) ∧ m1.ρ id = m.ρ id ∧ r'.k.sz = r.k.sz ∧ r'.xs.length = r.xs.length ∧ (noSub s id = true ∨ (r' = r ∧ Loc.r id ∉ its.map It.loc ++ dead)) := by
     intro id r' hm hg
     rcases hold _ _ hg with ⟨it, hi, e, hf⟩ | ⟨h1, h2, h3⟩
     ·cases it with
      | t d ag sps => cases e
      | b d sps => cases e
      | r c' e' k' =>
       injection e with e; subst e
       obtain ⟨o, ho⟩ := hmapped c' e' k' hi
       rcases hnone c' o ho with ⟨rfl, hns⟩ | ⟨hnm, _⟩
       ·obtain ⟨xs, e2, _, hf2⟩ := hf
        injection e2 with e2; subst e2
        obtain ⟨row, g1, g2, g3⟩ := hf2 c' ho
        refine ⟨row, g1, ?_, g2.symm, g3.symm, .inl hns⟩
        show rhoM μ m.ρ c' = m.ρ c'
        simp only [rhoM, ho]
       ·exact absurd (lfs_men hl hm) (hnm l0 lv0 hg0)
     ·refine ⟨r', h3, ?_, rfl, rfl, .inr ⟨rfl, h1⟩⟩
      show rhoM μ m.ρ id = m.ρ id
      cases hc : lookM μ id with
      | none => simp only [rhoM, hc]
      | some o => exact absurd (hW2 id o hc) h1
    have hix : ∀ q i, St.get (fillS its dead s x') (.x q) = some (.x i) → St.get (pre ++ s) (.x q) = some (.x i) := by
     intro q i hg
     rcases fillS_get hg with ⟨it, hi, e⟩ | ⟨h1, h2⟩
     ·cases it <;> cases e
     ·rw [hbase _ h1]; exact h2
    cases l with
    | int k n => exact hv
    | bool b => exact hv
    | str x => exact hv
    | nil => exact hv
    | fn f => exact hv
    | anyb => exact hv
    | chk f e k xs n => exact LfC.ext hv ⟨hkeep, fun id r' h _ => by (simp [Lf.men] at h), fun b c' h _ => by (simp [Lf.men] at h), fun q i h _ => by (simp [Lf.men] at h)⟩
    | any => exact hv
    | nilp => exact hv
    | ext id q off ver p e k zs =>
     refine ⟨hv.1, fun r' i hr' hi' => ?_⟩
     obtain ⟨r, g1, g2, g3, g4, g5⟩ := hrow id r' (by simp [Lf.men]) hr'
     rcases g5 with g5 | ⟨g5, g6⟩
     ·exact (noExt_ok g5 hg0 hl).elim
     ·subst g5
      obtain ⟨h0, h5⟩ := hv.2 r' i g1 (hix q i hi')
      refine ⟨h0, fun hver => ?_⟩
      obtain ⟨h1, h2, h3⟩ := h5 hver
      refine ⟨h1, h2, ?_⟩
      have hmv : Moves m.w m1.w m.φ m1.φ [2 * id] [2 * id] := recol_other (tgM_none fun a ha e => g6 (by have := hact a ha; rwa [show a = id by omega] at this)) []
      obtain ⟨v0, e0, h4⟩ := Ow.move (k := .sl e k) (cs := [v]) ⟨v, rfl, h3⟩ (hmv.sub (i.toNat :: p)) hkeep
      injection e0 with e0; subst e0
      exact h4
    | ro e k xs => exact Ro.keep (k := .rs e k) hv hkeep
    | rpa n k xs => exact Ro.keep (k := .pa n k) hv hkeep
    | mpb b => exact hv
    | mp es =>
     obtain ⟨b, ents, cl, e, h1, h2, h3⟩ := hv
     have h4 := hkeep b h1 (Array.getElem?_eq_some_iff.1 h2).1
     exact ⟨b, ents, cl, e, h4.2, h4.1.trans h2, h3⟩
    | apt n id =>
     refine ⟨hv.1, fun r' hr' => ?_⟩
     obtain ⟨r, g1, g2, g3, g4, _⟩ := hrow id r' (by simp [Lf.men]) hr'
     obtain ⟨h1, h3⟩ := hv.2 r g1
     exact ⟨g4.trans h1, by rw [g2]; exact h3⟩
    | own id =>
     refine ⟨hv.1, fun r' hr' => ?_⟩
     obtain ⟨r, g1, g2, _⟩ := hrow id r' (by simp [Lf.men]) hr'
     rw [g2]; exact hv.2 r g1
    | vw id lo hi =>
     refine ⟨hv.1, fun r' hr' => ?_⟩
     obtain ⟨r, g1, g2, g3, g4, _⟩ := hrow id r' (by simp [Lf.men]) hr'
     obtain ⟨h1, h2, h3⟩ := hv.2 r g1
     exact ⟨h1, g4 ▸ h2, by rw [g2, g3]; exact h3⟩
    | sub id q off ver =>
     refine ⟨hv.1, fun r' i hr' hi' => ?_⟩
     obtain ⟨r, g1, g2, g3, g4, g5⟩ := hrow id r' (by simp [Lf.men]) hr'
     rcases g5 with g5 | g5
     ·exact (noSub_ok g5 hg0 hl).elim
     ·obtain ⟨g5, _⟩ := g5
      subst g5
      rw [g2]
      exact hv.2 r' i g1 (hix q i hi')
    | ptr b off =>
     refine ⟨hv.1, fun c' hc' => ?_⟩
     obtain ⟨c, h1, h2⟩ := hJE.box b c' hc'
     rw [h2]; exact hv.2 c h1
    | clo f b off =>
     obtain ⟨p, e, k1, k2⟩ := hv
     refine ⟨p, e, k1, fun c' hc' => ?_⟩
     obtain ⟨c, h1, h2⟩ := hJE.box b c' hc'
     rw [h2]; exact k2 c h1
    | ept id q off =>
     refine ⟨hv.1, fun r' i hr' hi' => ?_⟩
     obtain ⟨r, g1, g2, g3, g4, _⟩ := hrow id r' (by simp [Lf.men]) hr'
     obtain ⟨h1, h2, h3⟩ := hv.2 r i g1 (hix q i hi')
     exact ⟨h1, g4 ▸ h2, by rw [g2, g3]; exact h3⟩
    | rpt k y off =>
     exact LfC.ext hv ⟨hkeep, fun id r' h _ => by (simp [Lf.men] at h), fun b c' h _ => by (simp [Lf.men] at h), fun q i h _ => by (simp [Lf.men] at h)⟩
   refine ⟨hr.sz, hr.df.fore (recol_fore _ _ _), fun d v hg => ?_, fun id r hg => ?_, fun b c hg => ?_, hr.kp.trans hkeep hr.hs, hr.fo.trans (recol_fore _ _ _) hr.hs, hr.nn, fun id r g1 g2 hg => ?_, fun b c hg => by
    obtain ⟨c', h1, h2⟩ := hJE.box b c hg
    rw [h2]; exact hr.gb b c' h1, hr.hs, hr.os, hr.tp, hr.ou⟩
   ·rcases hold _ _ hg with ⟨it, hi, e, hf⟩ | ⟨h1, h2, h3⟩
    ·cases it with
     | b d sps => cases e
     | r c e k => cases e
     | t d' ag sps =>
      injection e with e; subst e
      obtain ⟨v', e', hf, u, hu⟩ := hf
      injection e' with e'; subst e'
      exact hf u hu (hr.tm d' u hu)
    ·exact (hr.tm d v h3).lfs (hL _ _ h2)
   ·rcases hold _ _ hg with ⟨it, hi, e, hf⟩ | ⟨h1, h2, h3⟩
    ·cases it with
     | b d sps => cases e
     | t d ag sps => cases e
     | r c e' k =>
      injection e with e; subst e
      obtain ⟨xs, e', hf, _⟩ := hf
      injection e' with e'; subst e'
      exact hf
    ·have hni : id ∉ actM μ := fun hm => h1 (hact id hm)
     have hmv := recol_other (w := m.w) (φ := m.φ) (tg := tgM μ) (r := 2 * id) (tgM_none fun a0 ha e => hni (by rw [show id = a0 by omega]; exact ha)) []
     have hrw := (hr.rw id r h3).move hmv hkeep
     have hρ : rhoM μ m.ρ id = m.ρ id := by
      cases hc : lookM μ id with
      | none => simp only [rhoM, hc]
      | some o => exact absurd (hW2 id o hc) h1
     show OwL (Ow r.k m.w (recol (tgM μ) m.φ)) r.e r.k.sz m.w (recol (tgM μ) m.φ) [2 * id] r.xs (rhoM μ m.ρ id)
     rw [hρ]; exact hrw
   ·have hcol : ∀ c0 cs, All2 (LfC (pre ++ s) m) c0 cs → BxC (pre ++ s) m (m.β b) b c0 → recol (tgM μ) m.φ (m.β b).g = some [2 * b + 1] := by
     intro c0 cs _ hb
     obtain ⟨cs', _, _, h5, h6⟩ := hb
     have hlt : (m.β b).g < m.w.heap.size := (Array.getElem?_eq_some_iff.1 h6).1
     exact (recol_other (w := m.w) (tg := tgM μ) (φ := m.φ) (r := 2 * b + 1) (tgM_none fun v _ => by omega) [] (m.β b).g [] h5 hlt).2
    rcases hold _ _ hg with ⟨it, hi, e, hf⟩ | ⟨h1, h2, h3⟩
    ·cases it with
     | t d ag sps => cases e
     | r c e k => cases e
     | b d sps =>
      injection e with e; subst e
      obtain ⟨c1, c', e', hc', hf⟩ := hf
      injection e' with e'; subst e'
      have hb := hr.bx d c' hc'
      obtain ⟨cs, h4, h5, h6, h7⟩ := hb
      exact ⟨cs, hf cs h4, h5, hcol c' cs h4 ⟨cs, h4, h5, h6, h7⟩, h7⟩
    ·have hb := hr.bx b c h3
     obtain ⟨cs, h4, h5, h6, h7⟩ := hb
     exact ⟨cs, All2.imp (fun l hl v hv => hL _ _ h2 l hl v hv) h4, h5, hcol c cs h4 ⟨cs, h4, h5, h6, h7⟩, h7⟩
   ·cases hc : lookM μ id with
    | some o =>
     rcases hnone id o hc with ⟨rfl, _⟩ | ⟨_, h5⟩
     ·show rhoM μ m.ρ id = _
      simp only [rhoM, hc]
      rcases hold _ _ hg with ⟨it, hi, e, hf⟩ | ⟨h1, h2, h3⟩
      ·cases it with
       | b d sps => cases e
       | t d ag sps => cases e
       | r c e' k =>
        injection e with e; subst e
        obtain ⟨xs, e2, _, hf2⟩ := hf
        obtain ⟨row, g1', _⟩ := hf2 c hc
        exact hr.gr c row g1 g2 g1'
      ·exact absurd (hW2 id _ hc) h1
     ·omega
    | none =>
     have hid : rhoM μ m.ρ id = m.ρ id := by simp only [rhoM, hc]
     rcases hold _ _ hg with ⟨it, hi, e, hf⟩ | ⟨h1, h2, h3⟩
     ·cases it with
      | b d sps => cases e
      | t d ag sps => cases e
      | r c e' k =>
       injection e with e; subst e
       obtain ⟨o, ho⟩ := hmapped c e' k hi
       rw [hc] at ho; cases ho
     ·exact hid.trans (hr.gr id r g1 g2 h3)
  ·cases h
 ·cases h

/-- A temporary is told anew. -/
theorem Rel.retell {n : Nat} {w0 : World} {φ0 : Gh} {s : St} {a : Act} {m : Mem} (h : Rel n w0 φ0 s a m) {d : Nat} {v : AV} (hv : AVC s m v (a.tmps.getD d undef)) :
  Rel n w0 φ0 ((.t d, some (.t v)) :: s) a m := by
 have hsame : ∀ l, (∀ d, l ≠ .t d) → St.get ((.t d, some (.t v)) :: s) l = s.get l := fun l hl => St.get_cons_ne (hl d).symm _ _
 have hE : ∀ L, Ext s m ((.t d, some (.t v)) :: s) m L := Ext.same hsame
 refine ⟨h.sz, h.df, fun i u hi => ?_, fun id r hr => h.rw id r (by rw [← hsame _ (by simp)]; exact hr), fun b c hc => ?_, h.kp, h.fo, h.nn, fun id r h1 h2 hr => h.gr id r h1 h2 (by rw [← hsame _ (by simp)]; exact hr), fun b c hc => h.gb b c (by rw [← hsame _ (by simp)]; exact hc), h.hs, h.os, h.tp, h.ou⟩
 ·by_cases e : i = d
  ·subst e
   rw [St.get_cons_same] at hi
   injection hi with hi; injection hi with hi
   rw [← hi]
   exact hv.ext (hE _)
  ·rw [St.get_cons_ne (by intro hh; injection hh with hh; exact e hh.symm)] at hi
   exact (h.tm i u hi).ext (hE _)
 ·obtain ⟨cs, h1, h2, h3, h4⟩ := h.bx b c (by rw [← hsame _ (by simp)]; exact hc)
  exact ⟨cs, All2.imp (fun l hl b hb => hb.ext (hE _)) h1, h2, h3, h4⟩

/-- An own row, told as one that is only read. -/
def Lf.fz (id : Nat) (row : Row) : Lf → Lf
 | .own i => match Nat.beq i id with
  | true => .ro row.e row.k row.xs
  | false => .own i
 | l => l
def AV.fz (id : Nat) (row : Row) : AV → AV
 | .one l => .one (l.fz id row)
 | .agg ls => .agg (ls.map (Lf.fz id row))
 | .tup ps => .tup (ps.map fun p => (p.1, p.2.map (Lf.fz id row)))
 | .und => .und
def Lf.isOwn (id : Nat) : Lf → Bool
 | .own i => Nat.beq i id
 | _ => false
def AV.hasOwn (id : Nat) : AV → Bool
 | .one l => l.isOwn id
 | .agg ls => ls.any (Lf.isOwn id)
 | .tup ps => ps.any fun p => p.2.any (Lf.isOwn id)
 | .und => false
def LV.fz (id : Nat) (row : Row) : LV → LV
 | .t v => .t (v.fz id row)
 | .b c => .b (c.map (Lf.fz id row))
 | l => l
def roT (id : Nat) (row : Row) (p : Loc × LV) : Loc × Option LV := (p.1, some (p.2.fz id row))
def frz (ts : List (Loc × LV)) (id : Nat) (row : Row) : St := ts.map (roT id row) ++ [(.r id, none)]
/-- A temporary, or a variable. -/
def TB (p : Loc × LV) : Prop := (∃ t v, p = (.t t, .t v)) ∨ ∃ b c, p = (.b b, .b c)
theorem TB.ne {p : Loc × LV} (h : TB p) (id : Nat) : p.1 ≠ .r id := by
 rcases h with ⟨t, v, rfl⟩ | ⟨b, c, rfl⟩ <;> simp

theorem Rel.retellB {n : Nat} {w0 : World} {φ0 : Gh} {s : St} {a : Act} {m : Mem} (h : Rel n w0 φ0 s a m) {b : Nat} {c c' : List Lf} (hc : s.get (.b b) = some (.b c)) (hc' : ∀ cs, m.w.heap[(m.β b).g]? = some (.cells ((m.β b).pre ++ cs ++ (m.β b).post).toArray (m.β b).t (0, 0)) → All2 (LfC s m) c cs → All2 (LfC s m) c' cs) :
  Rel n w0 φ0 ((.b b, some (.b c')) :: s) a m ∧ ∀ L, Ext s m ((.b b, some (.b c')) :: s) m L := by
 have hsame : ∀ l, l ≠ .b b → St.get ((.b b, some (.b c')) :: s) l = s.get l := fun l hl => St.get_cons_ne (Ne.symm hl) _ _
 have hE : ∀ L, Ext s m ((.b b, some (.b c')) :: s) m L := fun L => ⟨Keeps.refl _ _, fun id r' _ hr => ⟨r', by rw [← hsame _ (by simp)]; exact hr, rfl, rfl, rfl, Nat.le_refl _, fun _ _ _ _ hc => hc, fun _ => Moves.refl _ _ _⟩,
  fun b' c'' _ hb => by
   by_cases e : b' = b
   ·subst e; exact ⟨c, hc, rfl⟩
   ·exact ⟨c'', by rw [← hsame _ (by simpa using e)]; exact hb, rfl⟩, fun q i _ hi => by rw [← hsame _ (by simp)]; exact hi⟩
 refine ⟨⟨h.sz, h.df, fun i u hi => (h.tm i u (by rw [← hsame _ (by simp)]; exact hi)).ext (hE _), fun id r hr => h.rw id r (by rw [← hsame _ (by simp)]; exact hr), fun b' c'' hb => ?_, h.kp, h.fo, h.nn, fun id r h1 h2 hr => h.gr id r h1 h2 (by rw [← hsame _ (by simp)]; exact hr), fun b' c'' hb => ?_, h.hs, h.os, h.tp, h.ou⟩, hE⟩
 ·by_cases e : b' = b
  ·subst e
   rw [St.get_cons_same] at hb
   injection hb with hb; injection hb with hb
   subst hb
   obtain ⟨cs, h1, h2, h3, h4⟩ := h.bx _ c hc
   exact ⟨cs, All2.imp (fun l hl u hu => hu.ext (hE _)) (hc' cs h4 h1), h2, h3, h4⟩
  ·obtain ⟨cs, h1, h2, h3, h4⟩ := h.bx b' c'' (by rw [← hsame _ (by simpa using e)]; exact hb)
   exact ⟨cs, All2.imp (fun l hl u hu => hu.ext (hE _)) h1, h2, h3, h4⟩
 ·by_cases e : b' = b
  ·subst e; exact h.gb _ c hc
  ·exact h.gb b' c'' (by rw [← hsame _ (by simpa using e)]; exact hb)

theorem Lf.fz_ok {s s1 : St} {m m1 : Mem} {id : Nat} {row : Row} (hown : ∀ u, LfC s m (.own id) u → LfC s1 m1 (.ro row.e row.k row.xs) u) {l : Lf} {u : Value} (h0 : LfC s m l u) (h1 : LfC s1 m1 l u) : LfC s1 m1 (l.fz id row) u := by
 cases l with
 | own i =>
  simp only [Lf.fz]
  cases e : Nat.beq i id with
  | true =>
   rw [Nat.eq_of_beq_eq_true e] at h0
   exact hown u h0
  | false => exact h1
 | _ => exact h1
theorem All2.both {s s1 : St} {m m1 : Mem} {id : Nat} {row : Row} (hown : ∀ u, LfC s m (.own id) u → LfC s1 m1 (.ro row.e row.k row.xs) u) : ∀ {ls : List Lf} {cs : List Value}, All2 (LfC s m) ls cs → All2 (LfC s1 m1) ls cs → All2 (LfC s1 m1) (ls.map (Lf.fz id row)) cs
 | [], [], _, _ => trivial
 | _ :: _, _ :: _, h0, h1 => ⟨Lf.fz_ok hown h0.1 h1.1, All2.both hown h0.2 h1.2⟩
theorem arr_inj {cs ds : List Value} (h : cs.toArray = ds.toArray) : cs = ds := by
 have := congrArg Array.toList h
 simpa using this
theorem AVC.fz {s s1 : St} {m m1 : Mem} {id : Nat} {row : Row} (hown : ∀ u, LfC s m (.own id) u → LfC s1 m1 (.ro row.e row.k row.xs) u) {v : AV} {x : Value} (h0 : AVC s m v x) (h1 : AVC s1 m1 v x) : AVC s1 m1 (v.fz id row) x := by
 cases v with
 | one l => exact Lf.fz_ok hown h0 h1
 | agg ls =>
  obtain ⟨cs, rfl, h0⟩ := h0
  obtain ⟨ds, e, h1⟩ := h1
  injection e with e
  obtain rfl := arr_inj e
  exact ⟨cs, rfl, All2.both hown h0 h1⟩
 | tup ps =>
  obtain ⟨vs, rfl, h0⟩ := h0
  obtain ⟨us, e, h1⟩ := h1
  injection e with e
  obtain rfl := arr_inj e
  refine ⟨vs, rfl, ?_⟩
  clear e
  induction ps generalizing vs with
  | nil => cases vs with
   | nil => trivial
   | cons _ _ => exact h0.elim
  | cons p ps ih =>
   cases vs with
   | nil => exact h0.elim
   | cons v vs =>
    refine ⟨?_, ih vs h0.2 h1.2⟩
    obtain ⟨g, ls⟩ := p
    have a0 := h0.1
    have a1 := h1.1
    cases g with
    | true =>
     obtain ⟨cs, rfl, a0⟩ := a0
     obtain ⟨ds, e, a1⟩ := a1
     injection e with e
     obtain rfl := arr_inj e
     exact ⟨cs, rfl, All2.both hown a0 a1⟩
    | false =>
     obtain ⟨l, rfl, a0⟩ := a0
     obtain ⟨l', e, a1⟩ := a1
     simp only [List.cons.injEq, and_true] at e
     subst e
     exact ⟨_, rfl, Lf.fz_ok hown a0 a1⟩
 | und => exact h1

/-- What a cell's value is in a box's memory. -/
def BoxIs (m : Mem) (b : Nat) (cs : List Value) : Prop := m.w.heap[(m.β b).g]? = some (.cells ((m.β b).pre ++ cs ++ (m.β b).post).toArray (m.β b).t (0, 0))
theorem BoxIs.inj {m : Mem} {b : Nat} {cs ds : List Value} (h : BoxIs m b cs) (h' : BoxIs m b ds) : cs = ds := by
 unfold BoxIs at h h'
 rw [h] at h'
 injection h' with h'
 injection h' with h'
 have h' := arr_inj h'
 exact List.append_cancel_left (List.append_cancel_right h')

theorem Rel.frz {n : Nat} {w0 : World} {φ0 : Gh} {s : St} {a : Act} {m : Mem} (h : Rel n w0 φ0 s a m) {ts : List (Loc × LV)} {id : Nat} {row : Row} (hT : ∀ p ∈ ts, TB p) (ht : ∀ p ∈ ts, s.get p.1 = some p.2) (hr : s.get (.r id) = some (.r row)) :
  ∃ φ', Rel n w0 φ0 (frz ts id row ++ s) a ⟨m.w, φ', m.ρ, m.β⟩ := by
 refine ⟨recol [(id, fun _ => none)] m.φ, ?_⟩
 have h1 := h.drop [(id, fun _ => none)]
 have hown : ∀ (s1 : St) u, LfC s m (.own id) u → LfC s1 ⟨m.w, recol [(id, fun _ => none)] m.φ, m.ρ, m.β⟩ (.ro row.e row.k row.xs) u := fun s1 u hv => by
  have hv : u.oneCell' = true ∧ ∀ r, s.get (.r id) = some (.r r) → u = m.ρ id := hv
  rw [hv.2 row hr]
  have hfin : Ro (.rs row.e row.k) m.w (recol [(id, fun _ => none)] m.φ) row.xs [m.ρ id] := (h.rw id row hr).toFree (recol_frees (tg := [(id, fun _ => none)]) (f := fun _ => none) (by simp [lookR]) (fun _ => rfl)) (recol_keeps _ _ _)
  exact hfin
 -- what is told of each: of a temporary its value, of a variable its cells
 let Good : St → Loc × LV → Prop := fun s1 p => match p.2 with
  | .t v => ∀ t, p.1 = .t t → AVC s1 ⟨m.w, recol [(id, fun _ => none)] m.φ, m.ρ, m.β⟩ v (a.tmps.getD t undef)
  | .b c => ∀ b, p.1 = .b b → ∀ cs, BoxIs m b cs → All2 (LfC s1 ⟨m.w, recol [(id, fun _ => none)] m.φ, m.ρ, m.β⟩) c cs
  | _ => True
 have gext : ∀ (s1 s2 : St) (p : Loc × LV), (∀ L, Ext s1 ⟨m.w, recol [(id, fun _ => none)] m.φ, m.ρ, m.β⟩ s2 ⟨m.w, recol [(id, fun _ => none)] m.φ, m.ρ, m.β⟩ L) → Good s1 p → Good s2 p := by
  intro s1 s2 p hE hg
  obtain ⟨l, lv⟩ := p
  cases lv with
  | t v => exact fun t e => (hg t e).ext (hE _)
  | b c => exact fun b e cs hb => All2.imp (fun l hl u hu => hu.ext (hE _)) (hg b e cs hb)
  | r _ => trivial
  | x _ => trivial
 have key : ∀ (us : List (Loc × LV)), (∀ p ∈ us, p ∈ ts) → Rel n w0 φ0 (us.map (roT id row) ++ ((.r id, none) :: s)) a ⟨m.w, recol [(id, fun _ => none)] m.φ, m.ρ, m.β⟩ ∧ (∀ p ∈ ts, Good (us.map (roT id row) ++ ((.r id, none) :: s)) p) ∧
   ∀ b c, (Loc.b b, LV.b c) ∈ ts → ∃ c', St.get (us.map (roT id row) ++ ((.r id, none) :: s)) (.b b) = some (.b c') := by
  intro us
  induction us with
  | nil =>
   intro _
   have hget : ∀ p ∈ ts, St.get ((.r id, none) :: s) p.1 = some p.2 := fun p hp => (St.get_cons_ne (l := .r id) (m := p.1) (Ne.symm ((hT p hp).ne id)) none s).trans (ht p hp)
   refine ⟨h1, fun p hp => ?_, fun b c hm => ⟨c, hget _ hm⟩⟩
   have hg := hget p hp
   rcases hT p hp with ⟨t, v, rfl⟩ | ⟨b, c, rfl⟩
   ·intro t' e
    injection e with e; subst e
    exact h1.tm _ _ hg
   ·intro b' e cs hb
    injection e with e; subst e
    obtain ⟨ds, g1, g2, g3, g4⟩ := h1.bx _ _ hg
    have : cs = ds := BoxIs.inj hb g4
    subst this
    exact g1
  | cons q us ih =>
   intro hm
   obtain ⟨g1, g2, g3⟩ := ih (fun p hp => hm p (List.mem_cons_of_mem _ hp))
   have hq := hm q List.mem_cons_self
   have hgq := g2 q hq
   rcases hT q hq with ⟨t, v, rfl⟩ | ⟨b, c, rfl⟩
   ·have hnew := AVC.fz (hown _) (h.tm t v (ht _ hq)) (hgq t rfl)
    have g4 := g1.retell (d := t) (v := v.fz id row) hnew
    have hsame : ∀ l, (∀ d, l ≠ .t d) → St.get ((.t t, some (.t (v.fz id row))) :: (us.map (roT id row) ++ ((.r id, none) :: s))) l = St.get (us.map (roT id row) ++ ((.r id, none) :: s)) l := fun l hl => St.get_cons_ne (hl _).symm _ _
    refine ⟨g4, fun p hp => gext _ _ p (fun L => Ext.same hsame L) (g2 p hp), fun b c hb => ?_⟩
    obtain ⟨c', e⟩ := g3 b c hb
    exact ⟨c', (hsame _ (by simp)).trans e⟩
   ·obtain ⟨c0, e0⟩ := g3 b c hq
    obtain ⟨ds, d1, _, _, d4⟩ := h.bx b c (ht _ hq)
    have hB : ∀ cs, BoxIs m b cs → All2 (LfC (us.map (roT id row) ++ ((.r id, none) :: s)) ⟨m.w, recol [(id, fun _ => none)] m.φ, m.ρ, m.β⟩) (c.map (Lf.fz id row)) cs := fun cs hb => by
     have : cs = ds := BoxIs.inj hb d4
     subst this
     exact All2.both (hown _) d1 (hgq b rfl cs hb)
    obtain ⟨g4, g5⟩ := g1.retellB (b := b) (c := c0) (c' := c.map (Lf.fz id row)) e0 (fun cs hb _ => hB cs hb)
    refine ⟨g4, fun p hp => gext _ _ p g5 (g2 p hp), fun b' c' hb => ?_⟩
    by_cases e : b' = b
    ·subst e; exact ⟨_, St.get_cons_same _ _ _⟩
    ·obtain ⟨c2, e2⟩ := g3 b' c' hb
     exact ⟨c2, (St.get_cons_ne (by simpa using Ne.symm e) _ _).trans e2⟩
 have := (key ts (fun p hp => hp)).1
 unfold Ev.frz
 rw [List.append_assoc]
 exact this

/-- The temporaries and variables that hold a row. -/
def ownTs (s : St) (id : Nat) : List (Loc × LV) := (s.filterMap fun p => match p with
 | (.t t, some (.t v)) => match v.hasOwn id with
  | true => match s.get (.t t) with
   | some (.t v) => match v.hasOwn id with
    | true => some (.t t, .t v)
    | false => none
   | _ => none
  | false => none
 | (.b b, some (.b c)) => match c.any (Lf.isOwn id) with
  | true => match s.get (.b b) with
   | some (.b c) => match c.any (Lf.isOwn id) with
    | true => some (.b b, .b c)
    | false => none
   | _ => none
  | false => none
 | _ => none)

theorem ownTs_ok {s : St} {id : Nat} {p : Loc × LV} (h : p ∈ ownTs s id) : TB p ∧ s.get p.1 = some p.2 := by
 obtain ⟨q, _, hq⟩ := List.mem_filterMap.1 h
 split at hq
 ·split at hq
  ·split at hq
   ·rename_i e
    split at hq
    ·injection hq with hq; subst hq; exact ⟨.inl ⟨_, _, rfl⟩, e⟩
    ·cases hq
   ·cases hq
  ·cases hq
 ·split at hq
  ·split at hq
   ·rename_i e
    split at hq
    ·injection hq with hq; subst hq; exact ⟨.inr ⟨_, _, rfl⟩, e⟩
    ·cases hq
   ·cases hq
  ·cases hq
 ·cases hq

/-- Rows that are told of as if they were only read, where paths meet, are so from then on. -/
def frzB : List Sp → List Lf → St → St
 | .ro _ _ :: sps, .own id :: ls, s => match s.getR id with
  | some row => frzB sps ls (frz (ownTs s id) id row ++ s)
  | none => frzB sps ls s
 | _ :: sps, _ :: ls, s => frzB sps ls s
 | _, _, s => s
def frzIts : List It → St → St
 | [], s => s
 | .t d _ sps :: its, s => match s.getT d with
  | some (.one l) => frzIts its (frzB sps [l] s)
  | some (.agg ls) => frzIts its (frzB sps ls s)
  | _ => frzIts its s
 | .b d sps :: its, s => match s.getB d with
  | some c => frzIts its (frzB sps c s)
  | none => frzIts its s
 | _ :: its, s => frzIts its s

theorem frzB_ok {n : Nat} {w0 : World} {φ0 : Gh} {a : Act} : ∀ {sps : List Sp} {ls : List Lf} {s : St} {m : Mem}, Rel n w0 φ0 s a m → s <:+ frzB sps ls s ∧ ∃ φ', Rel n w0 φ0 (frzB sps ls s) a ⟨m.w, φ', m.ρ, m.β⟩ := by
 intro sps
 induction sps with
 | nil => intro ls s m h; cases ls <;> exact ⟨List.suffix_refl _, m.φ, h⟩
 | cons sp sps ih =>
  intro ls s m h
  cases ls with
  | nil => cases sp <;> exact ⟨List.suffix_refl _, m.φ, h⟩
  | cons l ls =>
   cases sp with
   | ro e k =>
    cases l with
    | own id =>
     cases hr : s.getR id with
     | some row =>
      have e : frzB (.ro e k :: sps) (.own id :: ls) s = frzB sps ls (frz (ownTs s id) id row ++ s) := by
       simp only [frzB, hr]
      rw [e]
      obtain ⟨φ', h1⟩ := h.frz (ts := ownTs _ id) (fun p hm => (ownTs_ok hm).1) (fun p hm => (ownTs_ok hm).2) (St.getR_some.1 hr)
      obtain ⟨h2, h3⟩ := ih (ls := ls) h1
      exact ⟨(List.suffix_append _ _).trans h2, h3⟩
     | none =>
      have e : frzB (.ro e k :: sps) (.own id :: ls) s = frzB sps ls s := by
       simp only [frzB, hr]
      rw [e]
      exact ih h
    | _ => exact ih h
   | _ => cases l <;> exact ih h

theorem frzIts_ok {n : Nat} {w0 : World} {φ0 : Gh} {a : Act} : ∀ {its : List It} {s : St} {m : Mem}, Rel n w0 φ0 s a m → s <:+ frzIts its s ∧ ∃ φ', Rel n w0 φ0 (frzIts its s) a ⟨m.w, φ', m.ρ, m.β⟩ := by
 intro its
 induction its with
 | nil => intro s m h; exact ⟨List.suffix_refl _, m.φ, h⟩
 | cons it its ih =>
  intro s m h
  have both : ∀ sps ls, s <:+ frzIts its (frzB sps ls s) ∧ ∃ φ', Rel n w0 φ0 (frzIts its (frzB sps ls s)) a ⟨m.w, φ', m.ρ, m.β⟩ := fun sps ls => by
   obtain ⟨h1, φ', h2⟩ := frzB_ok (sps := sps) (ls := ls) h
   obtain ⟨h3, h4⟩ := ih h2
   exact ⟨h1.trans h3, h4⟩
  cases it with
  | t d g sps =>
   unfold frzIts
   split
   ·exact both _ _
   ·exact both _ _
   ·exact ih h
  | b d sps =>
   unfold frzIts
   split
   ·exact both _ _
   ·exact ih h
  | r c e k =>
   unfold frzIts
   exact ih h

def joinS (its : List It) (dead : List Loc) (s s' : St) : Option (ShT its) := joinS0 its dead s (frzIts its s')

theorem joinS_ok {its : List It} {dead : List Loc} {s s' : St} {x : ShT its} (h : joinS its dead s s' = some x) (hs : s <:+ s') {n : Nat} {w0 : World} {φ0 : Gh} {a : Act} {m : Mem} (hr : Rel n w0 φ0 s' a m) :
  ∃ m1, m1.w = m.w ∧ Rel n w0 φ0 (fillS its dead s x) a m1 := by
 obtain ⟨h1, φ', h2⟩ := frzIts_ok (its := its) hr
 obtain ⟨m1, e, h3⟩ := joinS0_ok h (hs.trans h1) h2
 exact ⟨m1, e, h3⟩

end Go.Proofs.YthnfghmjipikhaaGreatDoor.Ev
namespace Go.Proofs.YthnfghmjipikhaaGreatDoor.Ev

theorem Rel.reAl {n : Nat} {w0 : World} {φ0 : Gh} {s : St} {a : Act} {m : Mem} (h : Rel n w0 φ0 s a m) {al : List (Nat × Obj)} (hd : DfOk w0 al a.defers m.w m.φ) : Rel n w0 { φ0 with al := al } s a m :=
 ⟨h.sz, hd, h.tm, h.rw, h.bx, h.kp, h.fo, h.nn, h.gr, h.gb, h.hs, h.os, h.tp, h.ou⟩

theorem row_addr {k : K} {e : Nat} {w : World} {φ : Col} {p : Path} {xs : List k.T} {v : Value} (h : OwL (Ow k w φ) e k.sz w φ p xs v) (hx : 0 < xs.length) : (rowAddr v).block < w.heap.size ∧ φ (rowAddr v).block = some p := by
 obtain ⟨inner, ho, hc, _⟩ := h
 rcases ho.2 with ⟨rfl, hn⟩ | ⟨g, cap, cur, fz, rfl, hg, hh, r⟩
 ·exact absurd hn (by first | omega | (intro e; simp_all))
 ·exact ⟨own_block_lt ho rfl, hc g rfl⟩

/-- What is another's may change; new blocks may come. -/
theorem Rel.alien {n : Nat} {w0 : World} {φ0 : Gh} {s : St} {a : Act} {m : Mem} (h : Rel n w0 φ0 s a m) {w' : World} {φ' : Col} {ds : List Deferred}
  (hsame : ∀ b, m.φ b ≠ some [] → b < m.w.heap.size → w'.heap[b]? = m.w.heap[b]? ∧ φ' b = m.φ b) (hfo : Fore w0 w' φ0.φ φ') (hs : m.w.heap.size ≤ w'.heap.size)
  (hos : w'.os = m.w.os) (htp : w'.tape = m.w.tape) (hou : w'.output = m.w.output) (hdf : DfOk w0 φ0.al ds w' φ') : Rel n w0 φ0 s { a with defers := ds } ⟨w', φ', m.ρ, m.β⟩ := by
 have hk : Keeps m.w w' m.φ φ' := fun b hb hlt => by
  obtain ⟨h1, h2⟩ := hsame b (by rw [hb]; intro e; cases e) hlt
  exact ⟨h1, h2.trans hb⟩
 have hm : ∀ (r : Nat) (q : Path), Moves m.w w' m.φ φ' (r :: q) (r :: q) := fun r q b q' hb hlt => by
  obtain ⟨h1, h2⟩ := hsame b (by rw [hb]; intro e; cases e) hlt
  exact ⟨h1, h2.trans hb⟩
 have hE : ∀ L, Ext s m s ⟨w', φ', m.ρ, m.β⟩ L := fun L =>
  ⟨hk, fun id r' _ hr => ⟨r', hr, rfl, rfl, rfl, Nat.le_refl _, fun _ hx j v hc => by
    obtain ⟨g1, g2⟩ := row_addr (h.rw id r' hr) hx
    have g3 := (hsame _ (by rw [g2]; intro e; cases e) g1).1
    exact (World.cell?_of_block (by rw [add_block]; exact g3)).trans hc, fun _ => hm _ _⟩, fun b c' _ hc => ⟨c', hc, rfl⟩, fun q i _ hi => hi⟩
 refine ⟨h.sz, hdf, fun d v hg => (h.tm d v hg).ext (hE _), fun id r hr => OwL.move (h.rw id r hr) (hm _ _) hk, fun b c hb => ?_, h.kp.trans hk h.hs, hfo, h.nn, h.gr, h.gb, Nat.le_trans h.hs hs, hos.trans h.os, htp.trans h.tp, hou.trans h.ou⟩
 obtain ⟨cs, h1, h2, h3, h4⟩ := h.bx b c hb
 obtain ⟨g1, g2⟩ := hsame _ (by rw [h3]; intro e; cases e) (Array.getElem?_eq_some_iff.1 h4).1
 exact ⟨cs, All2.imp (fun l hl b hb => hb.ext (hE _)) h1, h2, g2.trans h3, g1.trans h4⟩

theorem mark_inj {D D' : Nat} (h : markD D = markD D') : D = D' := by
 unfold markD at h
 injection h with h1 h2
 injection h1

/-- A block of another's is turned. -/
theorem Rel.turn {n : Nat} {w0 : World} {φ0 : Gh} {s : St} {a : Act} {m : Mem} (h : Rel n w0 φ0 s a m) {l : Nat} {o' : Obj} {ds : List Deferred} (hl : m.φ l = some []) (h0 : w0.heap.size ≤ l)
  (hdf : DfOk w0 φ0.al ds (m.w.putObj l o') m.φ) : Rel n w0 φ0 s { a with defers := ds } ⟨m.w.putObj l o', m.φ, m.ρ, m.β⟩ :=
 h.alien (fun b hb hlt => ⟨World.putObj_heap_other (fun e => hb (by rw [e]; exact hl)), rfl⟩)
  (fun b hb hlt => by
   obtain ⟨g1, g2⟩ := h.fo b hb hlt
   exact ⟨(World.putObj_heap_other (by omega)).trans g1, g2⟩) (by simp) rfl rfl rfl hdf


/-! ### Operations in a round -/
def noDef (o : Oper) : Bool := match o.op with
 | .defer _ => false
 | _ => true
theorem noDef_ok {o : Oper} (h : noDef o = true) : ∀ c, o.op ≠ .defer c := fun c e => by simp [noDef, e] at h

theorem upon_in {P : Program} {r N : Nat} {o : Oper} {a : Act} {K K' : Act → World → Prop} {Q Q' : Exit → Act → World → Prop} {x : Result Next}
  (hK : ∀ a1 w1 v ds, a1 = ({ a with defers := ds } : Act).put o.dst v → K a1 w1 → K' a1 w1) (hQ : ∀ e a1 w1, e ≠ .normal → Q e a1 w1 → Q' e a1 w1) (ho : ∀ a1 w1, ¬ Q .outgrown a1 w1)
  (h : o.upon P a K Q x) : o.uponIn (Fence.wide.inRound r) N P a K' Q' x := by
 have hl : ¬ LetsOut Q := fun ⟨a1, w1, h1⟩ => ho a1 w1 h1
 cases x with
 | ok nx w1 =>
  cases nx with
  | value v => exact hK _ _ v a.defers rfl h
  | skip => exact hK _ _ undef a.defers rfl h
  | «defer» d => exact hK _ _ undef (d :: a.defers) rfl h
  | enter f args =>
   refine ⟨fun hd => by simp [Fence.wide] at hd, CallsIn.inRound r ((callsIn_wide.2 h).mono ?_)⟩
   intro e w2 he
   cases e with
   | returned v => exact hK _ _ v a.defers rfl he
   | panicked ch => exact hQ _ _ _ (by simp) he
   | outgrown => exact absurd he hl
  | row row args =>
   refine ⟨fun hd => by simp [Fence.wide] at hd, fun c cs hr => ?_⟩
   obtain ⟨v, w2, h1, h2⟩ := h c cs
   exact ⟨v, w2, hK _ _ v a.defers rfl h1, stepsIn_wide.2 h2⟩
  | _ => exact h.elim
 | halt st w1 =>
  cases st with
  | panic v => exact hQ _ _ _ (by simp) h
  | _ => exact h.elim

/-- Temporaries off a list are as they were. -/
def SameD (D : List Nat) (a a' : Act) : Prop := a'.tmps.size = a.tmps.size ∧ ∀ d, d ∉ D → a'.tmps.getD d undef = a.tmps.getD d undef
theorem SameD.refl (D : List Nat) (a : Act) : SameD D a a := ⟨rfl, fun _ _ => rfl⟩
theorem SameD.trans {D D' : List Nat} {a b c : Act} (h : SameD D a b) (h' : SameD D' b c) : SameD (D ++ D') a c :=
 ⟨h'.1.trans h.1, fun d hd => (h'.2 d fun h => hd (List.mem_append_right _ h)).trans (h.2 d fun h => hd (List.mem_append_left _ h))⟩
theorem SameD.put {D : List Nat} {a : Act} {o : Option Nat} (ho : ∀ d, o = some d → d ∈ D) (v : Value) (ds : List Deferred) : SameD D a (({ a with defers := ds } : Act).put o v) := by
 cases o with
 | none => exact ⟨rfl, fun _ _ => rfl⟩
 | some i =>
  refine ⟨by simp [Act.put], fun d hd => ?_⟩
  have hne : i ≠ d := fun e => hd (e ▸ ho i rfl)
  simp only [Act.put, Array.getD_eq_getD_getElem?, Array.getElem?_setIfInBounds, if_neg hne]

def dstsOf (ops : Array Oper) : List Nat := ops.toList.filterMap (·.dst)

theorem ops_in {P : Program} {r N : Nat} {ops : Array Oper} (hnd : ops.toList.all noDef = true) {Q : Exit → Act → World → Prop} (hq : ∀ a w, ¬ Q .outgrown a w) : ∀ (l : List Nat) (a0 a : Act) (w : World), SameD (dstsOf ops) a0 a → wpOps P ops Q l a w →
  wpOpsIn (Fence.wide.inRound r) N P ops (fun e a' w' => Q e a' w' ∧ (e = .normal → SameD (dstsOf ops) a0 a')) l a w
 | [], a0, a, w, hs, h => ⟨h, fun _ => hs⟩
 | i :: l, a0, a, w, hs, h => by
  have hl : ¬ LetsOut Q := fun ⟨a1, w1, h1⟩ => hq a1 w1 h1
  rw [wpOps_cons] at h
  simp only [wpOp] at h
  simp only [wpOpsIn]
  cases ho : ops[i]? with
  | none => rw [ho] at h; exact ops_in hnd hq l a0 a w hs h
  | some o =>
   rw [ho] at h
   simp only at h ⊢
   have hmem : o ∈ ops.toList := by
    have := Array.getElem?_toList (xs := ops) (i := i)
    exact List.mem_of_getElem? (by rw [this]; exact ho)
   have hdst : ∀ d, o.dst = some d → d ∈ dstsOf ops := fun d hd => List.mem_filterMap.2 ⟨o, hmem, hd⟩
   have hstep : ∀ v ds, SameD (dstsOf ops) a0 (({ a with defers := ds } : Act).put o.dst v) := fun v ds => by
    have h2 := SameD.put (a := a) hdst v ds
    exact ⟨h2.1.trans hs.1, fun d hd => (h2.2 d hd).trans (hs.2 d hd)⟩
   split at h
   ·rename_i hw
    rw [if_pos hw]
    rcases h with h | h
    ·refine ⟨fun _ _ => trivial, ?_⟩
     rw [Fence.inRound_round, Oper.semAt_some r _ _ (noDef_ok (List.all_eq_true.1 hnd o hmem))]
     refine upon_in (K := wpOps P ops Q l) (fun a1 w1 v ds e h1 => ?_) (fun e a1 w1 hne h1 => ⟨h1, fun e => absurd e hne⟩) hq h
     exact ops_in hnd hq l a0 a1 w1 (by rw [e]; exact hstep v ds) h1
    ·exact absurd h.2 hl
   ·rename_i hw
    rw [if_neg hw]
    exact ⟨fun _ _ => trivial, ops_in hnd hq l a0 _ w (hstep undef a.defers) h⟩

theorem SameD.mono {D D' : List Nat} {a a' : Act} (h : SameD D a a') (hs : ∀ d, d ∈ D → d ∈ D') : SameD D' a a' := ⟨h.1, fun d hd => h.2 d fun hm => hd (hs d hm)⟩

/-! ### A round's code -/
def wrR : Code → Option (List Nat)
 | .skip => some []
 | .region _ ops false => match ops.toList.all noDef with
  | true => some (dstsOf ops)
  | false => none
 | .seq x y => match wrR x, wrR y with
  | some a, some b => some (a ++ b)
  | _, _ => none
 | .block _ x => wrR x
 | .cond _ x y => match wrR x, wrR y with
  | some a, some b => some (a ++ b)
  | _, _ => none
 | _ => none

def evR (E : EvOp) {R : Type} (n : Nat) : Code → St → (St → Option R) → Option R
 | .skip, s, k => k s
 | .region _ ops false, s, k => evText E n ops ops.toList s k
 | .seq x y, s, k => evR E n x s fun s' => evR E n y s' k
 | .block _ x, s, k => evR E n x s k
 | .cond c x y, s, k => match opnd s c with
  | some (.one (.bool t), _) => bif t then evR E n x s k else evR E n y s k
  | _ => none
 | _, _, _ => none

theorem evR_ok {P : Program} {E : EvOp} (hE : EvOpOk P E) {R : Type} {n r N : Nat} : ∀ (c : Code) {D : List Nat} {s : St} {k : St → Option R} {z : R}, wrR c = some D → evR E n c s k = some z →
  ∃ s', k s' = some z ∧ s <:+ s' ∧ ∀ w0 φ0 a m, Rel n w0 φ0 s a m → c.wpIn (Fence.wide.inRound r) N P (fun e a' w' => e = .normal ∧ SameD D a a' ∧ ∃ m', m'.w = w' ∧ Rel n w0 φ0 s' a' m') a m.w := by
 intro c
 induction c with
 | skip =>
  intro D s k z hD h
  exact ⟨s, h, List.suffix_refl _, fun w0 φ0 a m hr => wpIn_skip ⟨rfl, SameD.refl _ _, m, rfl, hr⟩⟩
 | region id ops d =>
  intro D s k z hD h
  cases d with
  | true => simp [wrR] at hD
  | false =>
   simp only [wrR] at hD
   split at hD
   ·rename_i hnd
    injection hD with hD; subst hD
    obtain ⟨s', h1, h2, h3⟩ := evText_ok hE (i := 0) (fun j o hj => by rw [Nat.zero_add, ← Array.getElem?_toList]; exact hj) h
    refine ⟨s', h1, h2, fun w0 φ0 a m hr => ?_⟩
    have h4 := h3 w0 φ0 a m hr (fun e a' w' => e = .normal ∧ ∃ m', m'.w = w' ∧ Rel n w0 φ0 s' a' m') fun a' m' hr' => ⟨rfl, m', rfl, hr'⟩
    rw [Array.length_toList, ← List.range_eq_range'] at h4
    refine wpIn_mono (wpIn_region (ops_in hnd (fun a w h => by cases h.1) _ a a m.w (SameD.refl _ _) h4)) ?_
    rintro e a' w' ⟨⟨rfl, m', e', hr'⟩, hs⟩
    exact ⟨rfl, hs rfl, m', e', hr'⟩
   ·cases hD
 | seq x y ihx ihy =>
  intro D s k z hD h
  simp only [wrR] at hD
  split at hD
  ·rename_i A B eA eB
   injection hD with hD; subst hD
   simp only [evR] at h
   obtain ⟨s1, h1, g1, f1⟩ := ihx eA h
   obtain ⟨s2, h2, g2, f2⟩ := ihy eB h1
   refine ⟨s2, h2, g1.trans g2, fun w0 φ0 a m hr => wpIn_seq (wpIn_mono (f1 w0 φ0 a m hr) ?_)⟩
   rintro e a1 w1 ⟨rfl, hs1, m1, rfl, hr1⟩
   refine wpIn_mono (f2 w0 φ0 a1 m1 hr1) ?_
   rintro e a2 w2 ⟨rfl, hs2, m2, rfl, hr2⟩
   exact ⟨rfl, hs1.trans hs2, m2, rfl, hr2⟩
  ·cases hD
 | block id x ih =>
  intro D s k z hD h
  simp only [wrR] at hD
  simp only [evR] at h
  obtain ⟨s1, h1, g1, f1⟩ := ih hD h
  refine ⟨s1, h1, g1, fun w0 φ0 a m hr => wpIn_block (wpIn_mono (f1 w0 φ0 a m hr) ?_)⟩
  rintro e a1 w1 ⟨rfl, hs1, m1, rfl, hr1⟩
  exact ⟨rfl, hs1, m1, rfl, hr1⟩
 | cond c x y ihx ihy =>
  intro D s k z hD h
  simp only [wrR] at hD
  split at hD
  ·rename_i A B eA eB
   injection hD with hD; subst hD
   simp only [evR] at h
   split at h
   ·rename_i t rd hc
    cases t with
    | true =>
     obtain ⟨s1, h1, g1, f1⟩ := ihx eA h
     refine ⟨s1, h1, g1, fun w0 φ0 a m hr => wpIn_cond_true ?_ (wpIn_mono (f1 w0 φ0 a m hr) ?_)⟩
     ·exact opnd_ok hc hr (opnd_reads hc)
     ·rintro e a1 w1 ⟨rfl, hs1, m1, rfl, hr1⟩
      exact ⟨rfl, hs1.mono fun d hd => List.mem_append_left _ hd, m1, rfl, hr1⟩
    | false =>
     obtain ⟨s1, h1, g1, f1⟩ := ihy eB h
     refine ⟨s1, h1, g1, fun w0 φ0 a m hr => wpIn_cond_false ?_ (wpIn_mono (f1 w0 φ0 a m hr) ?_)⟩
     ·exact opnd_ok hc hr (opnd_reads hc)
     ·rintro e a1 w1 ⟨rfl, hs1, m1, rfl, hr1⟩
      exact ⟨rfl, hs1.mono fun d hd => List.mem_append_right _ hd, m1, rfl, hr1⟩
   ·cases h
  ·cases hD
 | _ => intro D s k z hD h; simp [wrR] at hD

end Go.Proofs.YthnfghmjipikhaaGreatDoor.Ev
namespace Go.Proofs.YthnfghmjipikhaaGreatDoor.Ev

/-- One step for each. -/
def foldP {X Y : Type} (G : X → Y → Option Y) : List X → Y → Option Y
 | [], y => some y
 | x :: xs, y => match G x y with
  | some y' => foldP G xs y'
  | none => none
def pieceL {α : Type} (n : Nat) (xs : List α) (i : Nat) : List α := (xs.take (i * n + n)).drop (i * n)
def pieces {α : Type} (n : Nat) (xs : List α) : List (List α) := (List.range ((xs.length + n - 1) / n)).map (pieceL n xs)
theorem ro_cut3 {e : Nat} {κ : IntKind} {w : World} {φ : Col} {xs : List Int} {v : Value} (h : Ro (.rs e (.int κ)) w φ xs [v]) {lo hi : Nat} (h1 : lo < hi) (h2 : hi ≤ xs.length) :
  Ro (.rs e (.int κ)) w φ ((xs.take hi).drop lo) [cut3 lo hi v] := by
 have h3 := ro_cut (k := .int κ) h (Nat.le_of_lt h1) h2
 obtain ⟨A, c, e1, hl, hm, hc⟩ := h
 injection e1 with e1 _
 subst e1
 have hlen : ((xs.take hi).drop lo).length = hi - lo := by rw [List.length_drop, List.length_take]; omega
 obtain ⟨A2, c2, e2, hl2, hm2, hc2⟩ := h3
 simp only [cutV, if_neg (show ¬ c = lo by omega), K.sz, Nat.mul_one] at e2
 injection e2 with e2 _
 injection e2 with e2 e3 e4
 refine ⟨A2, hi - lo, by rw [hlen, ← e2]; rfl, by rw [hlen]; exact Nat.le_refl _, by omega, hc2⟩

def notT (l : Loc) : Bool := match l with
 | .t _ => false
 | _ => true

theorem tombs_skip {dead : List Loc} {rest : St} {l : Loc} (h : locB dead l = false) : St.get (tombs dead ++ rest) l = St.get rest l := by
 induction dead with
 | nil => rfl
 | cons d dead ih =>
  simp only [locB, List.any_cons, Bool.or_eq_false_iff] at h
  simp only [tombs, List.map_cons, List.cons_append]
  rw [St.get_cons_ne (Loc.eqb_false.1 h.1)]
  exact ih h.2
theorem fill_tmp {its : List It} {dead : List Loc} {s : St} {x : ShT its} (hits : its.all (fun it => notT it.loc) = true) {t : Nat} (hd : locB dead (.t t) = false) : St.get (fillS its dead s x) (.t t) = s.get (.t t) := by
 have hl : ∀ it ∈ its, it.loc ≠ .t t := fun it hi e => by
  have := List.all_eq_true.1 hits it hi
  rw [e] at this; cases this
 unfold fillS
 rw [get_app (not_inW_fIts hl), tombs_skip hd]
theorem fill_dead {its : List It} {dead : List Loc} {s : St} {x : ShT its} (hits : its.all (fun it => notT it.loc) = true) {t : Nat} {lv : LV} (hg : St.get (fillS its dead s x) (.t t) = some lv) : locB dead (.t t) = false := by
 rcases fillS_get hg with ⟨it, hi, e⟩ | ⟨h, _⟩
 ·have := List.all_eq_true.1 hits it hi
  rw [e] at this; cases this
 ·cases hb : locB dead (.t t) with
  | false => rfl
  | true => exact absurd (List.mem_append_right _ (locB_ok hb)) h

theorem Rel.act {n : Nat} {w0 : World} {φ0 : Gh} {s : St} {a a' : Act} {m : Mem} (h : Rel n w0 φ0 s a m) (hsz : a'.tmps.size = n) (hdf : DfOk w0 φ0.al a'.defers m.w m.φ)
  (ht : ∀ d v, s.get (.t d) = some (.t v) → a'.tmps.getD d undef = a.tmps.getD d undef) : Rel n w0 φ0 s a' m :=
 ⟨hsz, hdf, fun d v hg => by rw [ht d v hg]; exact h.tm d v hg, h.rw, h.bx, h.kp, h.fo, h.nn, h.gr, h.gb, h.hs, h.os, h.tp, h.ou⟩

def mks (ds : List Deferred) : List (Nat × Obj) := ds.map fun d => (match d.target with
 | .collected D => D
 | _ => 0, .deferred (some []))

def al1 (D : Nat) (o : Obj) (ds : List Deferred) (al : List (Nat × Obj)) : List (Nat × Obj) := (D, .deferred (some [])) :: (D + 1, o) :: (mks ds ++ al)

theorem al1_ok {w0 : World} {al : List (Nat × Obj)} {ds : List Deferred} {w : World} {φ : Col} (h : DfOk w0 al ds w φ) : ∀ p ∈ mks ds ++ al, w0.heap.size ≤ p.1 ∧ φ p.1 = some [] ∧ w.heap[p.1]? = some p.2 := by
 intro p hp
 rcases List.mem_append.1 hp with hp | hp
 ·obtain ⟨d, hd, rfl⟩ := List.mem_map.1 hp
  obtain ⟨D, rfl, h1, h2, h3⟩ := h.1.2 d hd
  exact ⟨h1, h2, h3⟩
 ·exact h.2 p hp

theorem turnL {n : Nat} {w0 : World} {φ0 : Gh} {s : St} {a : Act} {m : Mem} {D : Nat} {r r' : Loop} {ds0 : List Deferred} {al0 : List (Nat × Obj)} (h : Rel n w0 { φ0 with al := al1 D (.loop r) ds0 al0 } s a m) (hD : ∀ p ∈ mks ds0 ++ al0, p.1 < D) :
  Rel n w0 { φ0 with al := al1 D (.loop r') ds0 al0 } s a ⟨m.w.putObj (D + 1) (.loop r'), m.φ, m.ρ, m.β⟩ := by
 have hA := h.df.2
 obtain ⟨l0, l1, l2⟩ := hA (D + 1, .loop r) (by simp [al1])
 have hds : a.defers.Nodup ∧ ∀ d ∈ a.defers, ∃ D', d = markD D' ∧ w0.heap.size ≤ D' ∧ m.φ D' = some [] ∧ (m.w.putObj (D + 1) (.loop r')).heap[D']? = some (.deferred (some [])) :=
  ⟨h.df.1.1, fun d hd => by
   obtain ⟨D', e, g1, g2, g3⟩ := h.df.1.2 d hd
   refine ⟨D', e, g1, g2, (World.putObj_heap_other fun e => ?_).trans g3⟩
   rw [e] at g3
   rw [g3] at l2
   injection l2 with l2; cases l2⟩
 have h0 : Rel n w0 { φ0 with al := [] } s a m := h.reAl (al := []) ⟨h.df.1, fun p hp => by cases hp⟩
 have h1 := h0.turn (l := D + 1) (o' := .loop r') (ds := a.defers) l1 l0 ⟨hds, fun p hp => by cases hp⟩
 refine Rel.reAl (φ0 := { φ0 with al := [] }) h1 ⟨hds, fun p hp => ?_⟩
 simp only [al1, List.mem_cons] at hp
 rcases hp with rfl | rfl | hp
 ·obtain ⟨g0, g1, g2⟩ := hA (D, .deferred (some [])) (by simp [al1])
  exact ⟨g0, g1, (World.putObj_heap_other (by simp)).trans g2⟩
 ·exact ⟨l0, l1, World.putObj_heap_same (Array.getElem?_eq_some_iff.1 l2).1⟩
 ·obtain ⟨g0, g1, g2⟩ := hA p (by simp only [al1, List.mem_cons]; exact .inr (.inr hp))
  have := hD p hp
  exact ⟨g0, g1, (World.putObj_heap_other (by omega)).trans g2⟩

theorem range_ok {P : Program} {E : EvOp} (hE : EvOpOk P E) {n f e : Nat} {xs : List Int} {n0 : Int} (hit : ItSound P f) {its : List It} {dead : List Loc} {s : St} {t q : Nat} {assign body : Code} {D1 D2 : List Nat}
  (h1 : wrR assign = some D1) (h2 : wrR body = some D2) (ht : s.getT t = some (.one (.chk f e (.int .u8) xs n0))) (hn0 : 0 < n0 ∧ n0 ≤ 1048576) (hxs : xs.length ≤ 1152921504606846976) (hq : q < n) (hits : its.all (fun it => notT it.loc) = true)
  (hdead : (q :: (D1 ++ D2)).all (fun d => locB dead (.t d)) = true) (htd : locB dead (.t t) = false) {x0 y : ShT its} (hj : joinS its dead s s = some x0)
  (hf : foldP (fun piece x => evR E n assign ((.t q, some (.t (.one (.ro e (.int .u8) piece)))) :: fillS its dead s x) fun s1 => evR E n body s1 fun s2 => joinS its dead s s2) (pieces n0.toNat xs) x0 = some y)
  {w0 : World} {φ0 : Gh} {a : Act} {m : Mem} (hr : Rel n w0 φ0 s a m) {Q : Exit → Act → World → Prop} (hQ : ∀ a' m', Rel n w0 φ0 (fillS its dead s y) a' m' → Q .normal a' m'.w) :
  (Code.rangeFunc (.tmp t) #[q] assign body).wp P Q a m.w := by
 obtain ⟨m0, em0, hr0⟩ := joinS_ok hj (List.suffix_refl _) hr
 rw [← em0]
 clear hr em0 m
 have htg : ∀ x, St.get (fillS its dead s x) (.t t) = some (.t (.one (.chk f e (.int .u8) xs n0))) := fun x => by rw [fill_tmp hits htd]; exact St.getT_some.1 ht
 obtain ⟨b1, b2, v1, ev, _⟩ := hr0.tm t _ (htg x0)
 have hsz0 := hr0.sz
 generalize hG : (fun (piece : List Int) (x : ShT its) => evR E n assign ((.t q, some (.t (.one (.ro e (.int .u8) piece)))) :: fillS its dead s x) fun s1 => evR E n body s1 fun s2 => joinS its dead s s2) = G at hf
 refine (wpIn_wide (n := 3)).1 (wpIn_rangeFunc fun fn _ => ?_)
 obtain ⟨D, hD⟩ : ∃ D, D = m0.w.heap.size := ⟨_, rfl⟩
 let rc : LoopState → Loop := fun st => { state := st, pending := none, fn, tmps := a.tmps, params := #[q], assign, body, defers := D }
 obtain ⟨W1, hW1⟩ : ∃ W, W = (m0.w.alloc (.deferred (some []))).alloc (.loop (rc .ready)) := ⟨_, rfl⟩
 have sW1 : W1.heap.size = D + 2 := by rw [hW1]; simp [← hD]
 have oW1 : ∀ b, b < D → W1.heap[b]? = m0.w.heap[b]? := fun b hb => by
  rw [hW1, alloc_old _ _ _ (by simp; omega), alloc_old _ _ _ (by omega)]
 have dW1 : W1.heap[D]? = some (.deferred (some [])) := by
  rw [hW1, alloc_old _ _ _ (by simp [← hD]), hD]; exact World.alloc_heap_new _ _
 have lW1 : W1.heap[D + 1]? = some (.loop (rc .ready)) := by
  have := World.alloc_heap_new (m0.w.alloc (.deferred (some []))) (.loop (rc .ready))
  rw [World.size_alloc, ← hD, ← hW1] at this
  exact this
 let φ1 : Col := upd (upd m0.φ D (some [])) (D + 1) (some [])
 have cD : φ1 D = some [] := by simp only [φ1]; rw [upd_ne _ (by omega), upd_same]
 have cl : φ1 (D + 1) = some [] := by simp only [φ1]; rw [upd_same]
 have co : ∀ b, b < D → φ1 b = m0.φ b := fun b hb => by simp only [φ1]; rw [upd_ne _ (by omega), upd_ne _ (by omega)]
 have hw0 : w0.heap.size ≤ D := by rw [hD]; exact hr0.hs
 have hmk := al1_ok hr0.df
 have hmk1 : ∀ p ∈ mks a.defers ++ φ0.al, p.1 < D ∧ w0.heap.size ≤ p.1 ∧ φ1 p.1 = some [] ∧ W1.heap[p.1]? = some p.2 := fun p hp => by
  obtain ⟨g1, g2, g3⟩ := hmk p hp
  have hlt : p.1 < D := by rw [hD]; exact (Array.getElem?_eq_some_iff.1 g3).1
  exact ⟨hlt, g1, (co _ hlt).trans g2, (oW1 _ hlt).trans g3⟩
 let gh : LoopState → Gh := fun st => { φ0 with al := al1 D (.loop (rc st)) a.defers φ0.al }
 have hst : Rel n w0 (gh .ready) (fillS its dead s x0) ⟨a.tmps, []⟩ ⟨W1, φ1, m0.ρ, m0.β⟩ := by
  refine Rel.reAl (hr0.alien (ds := []) (fun b hb hlt => ⟨oW1 b (by omega), co b (by omega)⟩) (fun b hb hlt => ?_) (by omega) (by rw [hW1]; rfl) (by rw [hW1]; rfl) (by rw [hW1]; rfl) ⟨⟨List.nodup_nil, fun d hd => by cases hd⟩, fun p hp => (hmk1 p (List.mem_append_right _ hp)).2⟩) ⟨⟨List.nodup_nil, fun d hd => by cases hd⟩, fun p hp => ?_⟩
  ·obtain ⟨g1, g2⟩ := hr0.fo b hb hlt
   exact ⟨(oW1 b (by omega)).trans g1, (co b (by omega)).trans g2⟩
  ·simp only [gh, al1, List.mem_cons] at hp
   rcases hp with rfl | rfl | hp
   ·exact ⟨hw0, cD, dW1⟩
   ·exact ⟨by show w0.heap.size ≤ D + 1; omega, cl, lW1⟩
   ·exact (hmk1 p hp).2
 have hmkD : ∀ p ∈ mks a.defers ++ φ0.al, p.1 < D := fun p hp => (hmk1 p hp).1
 refine ⟨D + 1, [markD D], W1, { target := .fn (.func f) #[.pointer (some ⟨b1, 0, none⟩), .pointer (some ⟨b2, 0, none⟩)], args := #[.func (.yield (D + 1)) #[] #[]] }, W1, f,
  #[.func (.yield (D + 1)) #[] #[]] ++ #[.pointer (some ⟨b1, 0, none⟩), .pointer (some ⟨b2, 0, none⟩)], W1, ?_, ?_, fun _ _ => trivial, ?_, fun hd => by simp [Fence.wide] at hd, ?_⟩
 ·rw [hW1]
  have := run_enterLoop_outer (P := P) (w := m0.w) fn a.tmps #[q] assign body
  rw [← hD] at this
  exact this
 ·have hev : a.eval (.tmp t) = .func (.func f) #[] #[.pointer (some ⟨b1, 0, none⟩), .pointer (some ⟨b2, 0, none⟩)] := ev
  simp only [resolve, hev]
  simp [go_sem]
 ·simp [invoke, go_sem, hit.1]
 let J : Nat → World → Prop := fun i W => ∃ x, foldP G ((pieces n0.toNat xs).drop i) x = some y ∧ ∃ m', m'.w = W ∧ Rel n w0 (gh .ready) (fillS its dead s x) ⟨a.tmps, []⟩ m'
 have hlen : (pieces n0.toNat xs).length = (xs.length + n0.toNat - 1) / n0.toNat := by simp [pieces]
 have hchk : ∀ x m', Rel n w0 (gh .ready) (fillS its dead s x) ⟨a.tmps, []⟩ m' → ∃ v1, m'.w.cell? ⟨b1, 0, none⟩ = some v1 ∧ m'.w.cell? ⟨b2, 0, none⟩ = some (.int .i64 n0) ∧ Ro (.rs e (.int .u8)) m'.w m'.φ xs [v1] := fun x m' hr' => by
  obtain ⟨c1, c2, v1', ev', _, _, g1, g2, g3⟩ := hr'.tm t _ (htg x)
  have e3 : Value.func (.func f) #[] #[.pointer (some ⟨b1, 0, none⟩), .pointer (some ⟨b2, 0, none⟩)] = Value.func (.func f) #[] #[.pointer (some ⟨c1, 0, none⟩), .pointer (some ⟨c2, 0, none⟩)] := ev.symm.trans ev'
  injection e3 with _ _ e3
  simp at e3
  obtain ⟨rfl, rfl⟩ := e3
  exact ⟨v1', g1, g2, g3⟩
 refine ((hit.2 1 (D + 1) b1 b2 e xs n0.toNat (by omega) (by omega) hxs J ?drew ?cells ?yield W1 ⟨x0, by rw [List.drop_zero]; exact hf, ⟨W1, φ1, m0.ρ, m0.β⟩, rfl, hst⟩).mono ?post)
 case drew =>
  rintro i W ⟨x, hx, m', rfl, hr'⟩
  have hf : Fore m'.w m'.w.drew m'.φ m'.φ := fun b h1 h2 => ⟨rfl, h1⟩
  exact ⟨x, hx, ⟨m'.w.drew, m'.φ, m'.ρ, m'.β⟩, rfl, hr'.alien (ds := []) (fun b _ _ => ⟨rfl, rfl⟩) (fun b h1 h2 => hr'.fo b h1 h2) (Nat.le_refl _) rfl rfl rfl (hr'.df.fore hf)⟩
 case cells =>
  rintro i W ⟨x, _, m', rfl, hr'⟩
  obtain ⟨v1', g1, g2, g3⟩ := hchk x m' hr'
  exact ⟨v1', m'.φ, g1, by rw [Int.toNat_of_nonneg (by omega)]; exact g2, g3⟩
 case post =>
  rintro e' W2 ⟨⟨v, rfl⟩, x, hx, m', rfl, hr'⟩
  rw [← hlen, List.drop_length] at hx
  simp only [foldP] at hx
  injection hx with hx; subst hx
  have hA := hr'.df.2
  obtain ⟨l0, l1, l2⟩ := hA (D + 1, .loop (rc .ready)) (by simp [gh, al1])
  refine ⟨none, m'.w.putObj (D + 1) (.loop { rc .ready with state := .exhausted }), run_endLoop l2 (by simp [rc]), ?_⟩
  have hr1 : Rel n w0 φ0 (fillS its dead s x) ⟨a.tmps, []⟩ m' := hr'.reAl (al := φ0.al) ⟨⟨List.nodup_nil, fun d hd => by cases hd⟩, fun p hp => hA p (by simp only [gh, al1, List.mem_cons]; exact .inr (.inr (List.mem_append_right _ hp)))⟩
  have hr2 := hr1.turn (l := D + 1) (o' := .loop { rc .ready with state := .exhausted }) (ds := markD D :: a.defers) l1 l0 ⟨⟨List.nodup_cons.2 ⟨fun hm => ?_, hr0.df.1.1⟩, fun d hd => ?_⟩, fun p hp => ?_⟩
  ·exact hQ _ _ hr2
  ·obtain ⟨D', e', g1, g2, g3⟩ := hr0.df.1.2 _ hm
   have := (Array.getElem?_eq_some_iff.1 g3).1
   have := mark_inj e'
   omega
  ·rcases List.mem_cons.1 hd with rfl | hd
   ·obtain ⟨g0, g1, g2⟩ := hA (D, .deferred (some [])) (by simp [gh, al1])
    exact ⟨D, rfl, g0, g1, (World.putObj_heap_other (by simp)).trans g2⟩
   ·obtain ⟨D', e', _⟩ := hr0.df.1.2 d hd
    have hm : (D', Obj.deferred (some [])) ∈ mks a.defers ++ φ0.al := List.mem_append_left _ (List.mem_map.2 ⟨d, hd, by rw [e']; rfl⟩)
    obtain ⟨g0, g1, g2⟩ := hA (D', .deferred (some [])) (by simp only [gh, al1, List.mem_cons]; exact .inr (.inr hm))
    have := hmkD _ hm
    exact ⟨D', e', g0, g1, (World.putObj_heap_other (by simp only at this; omega)).trans g2⟩
  ·obtain ⟨g0, g1, g2⟩ := hA p (by simp only [gh, al1, List.mem_cons]; exact .inr (.inr (List.mem_append_right _ hp)))
   have := hmkD p (List.mem_append_right _ hp)
   exact ⟨g0, g1, (World.putObj_heap_other (by omega)).trans g2⟩
 case yield =>
  rintro i W v1' hi ⟨x, hx, m', rfl, hr'⟩ hv1'
  have hlt : i < (pieces n0.toNat xs).length := by
   rw [hlen]
   refine (Nat.le_div_iff_mul_le (by omega)).2 ?_
   rw [Nat.succ_mul]
   omega
  have hdrop : (pieces n0.toNat xs).drop i = pieceL n0.toNat xs i :: (pieces n0.toNat xs).drop (i + 1) := by
   rw [List.drop_eq_getElem_cons hlt]; simp [pieces]
  rw [hdrop] at hx
  simp only [foldP] at hx
  split at hx
  ·rename_i x' hgx
   rw [← hG] at hgx
   obtain ⟨s1, k1, g1, f1⟩ := evR_ok hE (r := D + 1) (N := 1) assign h1 hgx
   obtain ⟨s2, k2, g2, f2⟩ := evR_ok hE (r := D + 1) (N := 1) body h2 k1
   obtain ⟨l0, l1, l2⟩ := hr'.df.2 (D + 1, .loop (rc .ready)) (by simp [gh, al1])
   obtain ⟨v1'', c1, _, c3⟩ := hchk x m' hr'
   rw [hv1'] at c1
   injection c1 with c1; subst c1
   have hro : Ro (.rs e (.int .u8)) m'.w m'.φ (pieceL n0.toNat xs i) [cut3 (i * n0.toNat) (min (i * n0.toNat + n0.toNat) xs.length) v1'] := by
    have := ro_cut3 c3 (lo := i * n0.toNat) (hi := min (i * n0.toNat + n0.toNat) xs.length) (by omega) (by omega)
    rwa [List.take_eq_take_iff.2 (show min (min (i * n0.toNat + n0.toNat) xs.length) xs.length = min (i * n0.toNat + n0.toNat) xs.length by omega)] at this
   have hput := hr'.put (d := q) (v := .one (.ro e (.int .u8) (pieceL n0.toNat xs i))) hq hro
   refine ⟨fn, _, assign, body, run_yield l2 (by simp [rc]), roundIn_of_wpIn trivial ?_⟩
   have F1 := f1 _ _ _ _ hput
   have etm : (rc .ready).tmps.setIfInBounds q (cut3 (i * n0.toNat) (min (i * n0.toNat + n0.toNat) xs.length) v1') = ((rc .ready).params.zip #[cut3 (i * n0.toNat) (min (i * n0.toNat + n0.toNat) xs.length) v1']).foldl (fun tmps (t, a) => tmps.setIfInBounds t a) (rc .ready).tmps := by
    simp [rc]
   rw [← etm]
   refine wpIn_mono F1 ?_
   rintro e1 a1 w1 ⟨rfl, hs1, m1, rfl, hr1⟩
   obtain ⟨_, _, l2'⟩ := hr1.df.2 (D + 1, .loop (rc .ready)) (by simp [gh, al1])
   refine ⟨_, run_beginRound l2' rfl, ?_⟩
   have hb := turnL (r' := rc .busy) hr1 hmkD
   refine wpIn_mono (f2 _ _ _ _ hb) ?_
   rintro e2 a2 w2 ⟨rfl, hs2, m2, rfl, hr2⟩
   obtain ⟨_, _, l3⟩ := hr2.df.2 (D + 1, .loop (rc .busy)) (by simp [al1])
   refine ⟨_, _, run_endRound none l3, rfl, x', hx, ?_⟩
   obtain ⟨m3, e3, hr3⟩ := joinS_ok k2 ((fillS_suffix its dead s x).trans ((List.suffix_cons _ _).trans (g1.trans g2))) hr2
   have hr4 := turnL (r' := rc .ready) hr3 hmkD
   rw [e3] at hr4
   refine ⟨_, ?_, hr4.act (a' := ⟨a.tmps, []⟩) hsz0 ⟨⟨List.nodup_nil, fun d hd => by cases hd⟩, hr4.df.2⟩ fun d v hg => ?_⟩
   ·rfl
   ·have hnd := fill_dead hits hg
    have hnm : d ∉ q :: (D1 ++ D2) := fun hm => by
     have := List.all_eq_true.1 hdead d hm
     rw [hnd] at this; cases this
    simp only [List.mem_cons, List.mem_append, not_or] at hnm
    rw [hs2.2 d hnm.2.2, hs1.2 d hnm.2.1, put_getD (by rw [hsz0]; exact hq), if_neg hnm.1]
  ·cases hx

end Go.Proofs.YthnfghmjipikhaaGreatDoor.Ev
namespace Go.Proofs.YthnfghmjipikhaaGreatDoor.Ev

/-- A loop, n rounds at most: a round goes on (inl) or is the last (inr). -/
def loopN {α β : Type} (f : α → Option (α ⊕ β)) : Nat → α → Option β
 | 0, _ => none
 | n + 1, x => match f x with
  | some (.inl y) => loopN f n y
  | some (.inr y) => some y
  | none => none

theorem loopN_mono {α β : Type} {f : α → Option (α ⊕ β)} : ∀ {n : Nat} {x : α} {y : β}, loopN f n x = some y → ∀ m, n ≤ m → loopN f m x = some y
 | 0, _, _, h, _, _ => by cases h
 | n + 1, x, y, h, m, hm => by
  obtain ⟨k, rfl⟩ : ∃ k, m = k + 1 := ⟨m - 1, by omega⟩
  simp only [loopN] at h ⊢
  split at h
  ·exact loopN_mono h k (by omega)
  ·exact h
  ·cases h

open Classical in
/-- A loop. -/
noncomputable def loopO {α β : Type} (f : α → Option (α ⊕ β)) (x : α) : Option β :=
 if h : ∃ y n, loopN f n x = some y then some h.choose else none

theorem loopO_spec {α β : Type} {f : α → Option (α ⊕ β)} {x : α} {y : β} (h : loopO f x = some y) : ∃ n, loopN f n x = some y := by
 unfold loopO at h
 split at h
 ·rename_i hh; injection h with h; rw [← h]; exact hh.choose_spec
 ·cases h

theorem loopO_of {α β : Type} {f : α → Option (α ⊕ β)} {x : α} {y : β} {n : Nat} (h : loopN f n x = some y) : loopO f x = some y := by
 have hh : ∃ y n, loopN f n x = some y := ⟨y, n, h⟩
 unfold loopO
 rw [dif_pos hh]
 obtain ⟨k, hk⟩ := hh.choose_spec
 have h1 := loopN_mono h (max n k) (Nat.le_max_left _ _)
 have h2 := loopN_mono hk (max n k) (Nat.le_max_right _ _)
 rw [h1] at h2
 exact h2.symm

theorem loopO_eq {α β : Type} (f : α → Option (α ⊕ β)) (x : α) : loopO f x = match f x with
  | some (.inl y) => loopO f y
  | some (.inr y) => some y
  | none => none := by
 cases e : f x with
 | none =>
  cases h : loopO f x with
  | none => rfl
  | some y =>
   obtain ⟨n, hn⟩ := loopO_spec h
   cases n with
   | zero => cases hn
   | succ n => simp only [loopN, e] at hn; cases hn
 | some z =>
  cases z with
  | inr y => exact loopO_of (n := 1) (by simp only [loopN, e])
  | inl y =>
   show loopO f x = loopO f y
   cases h : loopO f y with
   | some z =>
    obtain ⟨n, hn⟩ := loopO_spec h
    exact loopO_of (n := n + 1) (by simp only [loopN, e]; exact hn)
   | none =>
    cases h' : loopO f x with
    | none => rfl
    | some z =>
     obtain ⟨n, hn⟩ := loopO_spec h'
     cases n with
     | zero => cases hn
     | succ n =>
      simp only [loopN, e] at hn
      rw [loopO_of hn] at h; cases h

inductive Ex where
 | normal
 | exit (id : Nat)
 | ret

def Ex.to : Ex → Exit
 | .normal => .normal
 | .exit id => .exit id
 | .ret => .ret

/-- What is told of a place where paths meet: its pattern, what is forgotten there, and whether all paths meet there. -/
structure Jn where
 its : List It
 dead : List Loc
 all : Bool

def bindO {A B : Type} (o : Option A) (f : A → Option B) : Option B := match o with
 | some x => f x
 | none => none
def mapO {A B : Type} (f : A → B) (o : Option A) : Option B := match o with
 | some x => some (f x)
 | none => none
def bindS {A B : Type} (o : Option (A ⊕ B)) (f : A → Option B) : Option B := match o with
 | some (.inl x) => f x
 | some (.inr y) => some y
 | none => none

/-- Out of a block. -/
def leave (id : Nat) : Ex → Ex
 | .exit i => match Nat.beq i id with
  | true => .normal
  | false => .exit i
 | e => e

/-- Where paths meet: x runs up to there, g goes on. -/
noncomputable def meet {R : Type} (j : Jn) (s : St) (f : (R' : Type) → (Ex → St → Option R') → Option R') (lv : Ex → Ex) (g : St → Option R) (k : Ex → St → Option R) : Option R :=
 match j.all with
 | true => bindO (f (ShT j.its) fun e s' => match lv e with
  | .normal => joinS j.its j.dead s s'
  | _ => none) fun x => g (fillS j.its j.dead s x)
 | false => bindS (f (ShT j.its ⊕ R) fun e s' => match lv e with
  | .normal => mapO Sum.inl (joinS j.its j.dead s s')
  | e => mapO Sum.inr (k e s')) fun x => g (fillS j.its j.dead s x)

open Classical in
noncomputable def eqO {R : Type} (a b : Option R) : Option R := if a = b then a else none
theorem eqO_some {R : Type} {a b : Option R} {r : R} (h : eqO a b = some r) : a = some r ∧ b = some r := by
 unfold eqO at h
 split at h
 ·rename_i e
  exact ⟨h, e ▸ h⟩
 ·cases h

/-- A range over the iterator of slices.Chunk. -/
def evRange (E : EvOp) (ck : Option (Nat × Nat)) (n : Nat) (oj : Option Jn) (t : Nat) (ps : List Tmp) (assign body : Code) (s : St) {R : Type} (k : St → Option R) : Option R :=
 match oj, s.getT t, ps, ck, wrR assign, wrR body with
 | some j, some (.one (.chk f e (.int .u8) xs n0)), [q], some (_, g), some D1, some D2 =>
  match Nat.beq f g && Nat.blt q n && j.its.all (fun it => notT it.loc) && (q :: (D1 ++ D2)).all (fun d => locB j.dead (.t d)) && !(locB j.dead (.t t)) with
  | true => bif decide (0 < n0) then bif decide (n0 ≤ 1048576) then bif decide (xs.length ≤ 1152921504606846976) then bindO (joinS j.its j.dead s s) fun x0 => bindO (foldP (fun piece x => evR E n assign ((.t q, some (.t (.one (.ro e (.int .u8) piece)))) :: fillS j.its j.dead s x) fun s1 => evR E n body s1 fun s2 => joinS j.its j.dead s s2) (pieces n0.toNat xs) x0) fun y => k (fillS j.its j.dead s y) else none else none else none
  | false => none
 | _, _, _, _, _, _ => none

noncomputable def ev (E : EvOp) (ck : Option (Nat × Nat)) (n : Nat) (An : Nat → Option Jn) : Code → Nat → St → (R : Type) → (Ex → St → Option R) → Option R
 | .skip, _, s, _, k => k .normal s
 | .region _ ops false, _, s, _, k => evText E n ops ops.toList s (k .normal)
 | .region _ ops true, _, s, _, k => evDrawn E n ops s (k .normal)
 | .seq a b, p, s, R, k => match An p with
  | none => ev E ck n An a (2 * p) s R fun e s' => match e with
   | .normal => ev E ck n An b (2 * p + 1) s' R k
   | e => k e s'
  | some j => meet j s (ev E ck n An a (2 * p) s) id (fun s' => ev E ck n An b (2 * p + 1) s' R k) k
 | .cond c a b, p, s, R, k => match opnd s c with
  | some (.one (.bool t), _) => bif t then ev E ck n An a (2 * p) s R k else ev E ck n An b (2 * p + 1) s R k
  | some (.one .anyb, _) => eqO (ev E ck n An a (2 * p) s R k) (ev E ck n An b (2 * p + 1) s R k)
  | _ => none
 | .block id a, p, s, R, k => match An p with
  | none => ev E ck n An a (2 * p) s R fun e s' => k (leave id e) s'
  | some j => meet j s (ev E ck n An a (2 * p) s) (leave id) (k .normal) k
 | .loop a, p, s, R, k => match An p with
  | none => none
  | some j => bindO (joinS j.its j.dead s s) fun x0 => loopO (fun x => ev E ck n An a (2 * p) (fillS j.its j.dead s x) (ShT j.its ⊕ R) fun e s' => match e with
   | .normal => mapO Sum.inl (joinS j.its j.dead s s')
   | e => mapO Sum.inr (k e s')) x0
 | .ret, _, s, _, k => k .ret s
 | .exit id, _, s, _, k => k (.exit id) s
 | .rangeFunc (.tmp t) ps assign body, p, s, _, k => evRange E ck n (An p) t ps.toList assign body s (k .normal)
 | _, _, _, _, _ => none

theorem bindO_some {A B : Type} {o : Option A} {f : A → Option B} {y : B} (h : bindO o f = some y) : ∃ x, o = some x ∧ f x = some y := by
 cases o with
 | none => cases h
 | some x => exact ⟨x, rfl, h⟩
theorem mapO_some {A B : Type} {o : Option A} {f : A → B} {y : B} (h : mapO f o = some y) : ∃ x, o = some x ∧ f x = y := by
 cases o with
 | none => cases h
 | some x => simp only [mapO] at h; injection h with h; exact ⟨x, rfl, h⟩
theorem bindS_some {A B : Type} {o : Option (A ⊕ B)} {f : A → Option B} {y : B} (h : bindS o f = some y) : (∃ x, o = some (.inl x) ∧ f x = some y) ∨ o = some (.inr y) := by
 cases o with
 | none => cases h
 | some x => cases x with
  | inl x => exact .inl ⟨x, rfl, h⟩
  | inr z => simp only [bindS] at h; injection h with h; subst h; exact .inr rfl

/-- What the evaluation of a code tells of its run. -/
def EvOk (P : Program) (n : Nat) (c : Code) (s : St) (f : (R : Type) → (Ex → St → Option R) → Option R) : Prop :=
 ∀ (R : Type) (k : Ex → St → Option R) (r : R), f R k = some r → ∀ w0 φ0 a m (Q : Exit → Act → World → Prop), Rel n w0 φ0 s a m →
  (∀ e s' a' m', k e s' = some r → s <:+ s' → Rel n w0 φ0 s' a' m' → Q e.to a' m'.w) → c.wp P Q a m.w

theorem meet_ok {P : Program} {n : Nat} {c : Code} {s : St} {f : (R : Type) → (Ex → St → Option R) → Option R} (hf : EvOk P n c s f) {R : Type} {j : Jn} {lv : Ex → Ex} {g : St → Option R} {k : Ex → St → Option R} {r : R}
  (h : meet j s f lv g k = some r) {w0 : World} {φ0 : Gh} {a : Act} {m : Mem} (hr : Rel n w0 φ0 s a m) {Q : Exit → Act → World → Prop}
  (hn : ∀ e s' a' m', lv e = .normal → g s' = some r → s <:+ s' → Rel n w0 φ0 s' a' m' → Q e.to a' m'.w)
  (ho : ∀ e s' a' m', lv e ≠ .normal → k (lv e) s' = some r → s <:+ s' → Rel n w0 φ0 s' a' m' → Q e.to a' m'.w) : c.wp P Q a m.w := by
 unfold meet at h
 split at h
 ·obtain ⟨x, h1, h2⟩ := bindO_some h
  refine hf _ _ _ h1 w0 φ0 a m Q hr fun e s' a' m' hk hs hr' => ?_
  split at hk
  ·rename_i he
   obtain ⟨m1, e1, hr1⟩ := joinS_ok hk hs hr'
   rw [← e1]
   exact hn e _ a' m1 he h2 (fillS_suffix _ _ _ _) hr1
  ·cases hk
 ·rcases bindS_some h with ⟨x, h1, h2⟩ | h1
  ·refine hf _ _ _ h1 w0 φ0 a m Q hr fun e s' a' m' hk hs hr' => ?_
   split at hk
   ·rename_i he
    obtain ⟨y, h3, h4⟩ := mapO_some hk
    injection h4 with h4; subst h4
    obtain ⟨m1, e1, hr1⟩ := joinS_ok h3 hs hr'
    rw [← e1]
    exact hn e _ a' m1 he h2 (fillS_suffix _ _ _ _) hr1
   ·obtain ⟨y, h3, h4⟩ := mapO_some hk
    cases h4
  ·refine hf _ _ _ h1 w0 φ0 a m Q hr fun e s' a' m' hk hs hr' => ?_
   split at hk
   ·obtain ⟨y, h3, h4⟩ := mapO_some hk
    cases h4
   ·rename_i he
    obtain ⟨y, h3, h4⟩ := mapO_some hk
    injection h4 with h4; subst h4
    exact ho e s' a' m' (fun hh => he hh) h3 hs hr'

theorem opnd_bool {s : St} {x : Operand} {b : Bool} {rd : Rds} (h : opnd s x = some (.one (.bool b), rd)) {n : Nat} {w0 : World} {φ0 : Gh} {a : Act} {m : Mem} (hr : Rel n w0 φ0 s a m) : a.eval x = .bool b :=
 opnd_ok h hr (opnd_reads h)

theorem evRange_ok {P : Program} {E : EvOp} (hE : EvOpOk P E) {ck : Option (Nat × Nat)} (hck : ∀ f g, ck = some (f, g) → ItSound P g) {n : Nat} {oj : Option Jn} {t : Nat} {ps : Array Tmp} {assign body : Code} {s : St} {R : Type} {k : St → Option R} {r : R}
  (h : evRange E ck n oj t ps.toList assign body s k = some r) : ∃ s', k s' = some r ∧ s <:+ s' ∧ ∀ w0 φ0 a m (Q : Exit → Act → World → Prop), Rel n w0 φ0 s a m → (∀ a' m', Rel n w0 φ0 s' a' m' → Q .normal a' m'.w) → (Code.rangeFunc (.tmp t) ps assign body).wp P Q a m.w := by
 unfold evRange at h
 split at h
 ·rename_i j f e xs n0 q f' g D1 D2 e1 e2 e3 e4
  have e2 : ps = #[_] := Array.toList_inj.1 e2
  subst e2
  split at h
  ·rename_i hc
   simp only [Bool.and_eq_true, Bool.not_eq_true'] at hc
   obtain ⟨⟨⟨⟨c1, c3⟩, c4⟩, c5⟩, c6⟩ := hc
   cases c2 : decide (0 < n0) with
   | false => rw [c2] at h; cases h
   | true =>
   rw [c2] at h
   simp only [cond_true] at h
   cases c7 : decide (n0 ≤ 1048576) with
   | false => rw [c7] at h; cases h
   | true =>
   rw [c7] at h
   simp only [cond_true] at h
   cases hxs : decide (xs.length ≤ 1152921504606846976) with
   | false => rw [hxs] at h; cases h
   | true =>
   rw [hxs] at h
   have hxs := of_decide_eq_true hxs
   simp only [cond_true] at h
   obtain ⟨x0, h1, h⟩ := bindO_some h
   obtain ⟨y, h2, h⟩ := bindO_some h
   have hfg := Nat.eq_of_beq_eq_true c1
   refine ⟨_, h, fillS_suffix _ _ _ _, fun w0 φ0 a m Q hr hQ => range_ok hE (hfg ▸ hck f' g rfl) e3 e4 e1 ⟨of_decide_eq_true c2, of_decide_eq_true c7⟩ hxs (blt_iff.1 c3) c4 c5 c6 h1 h2 hr hQ⟩
  ·cases h
 ·cases h

theorem ev_ok {P : Program} (hm : P.follows .mixedOrders = true) {E : EvOp} (hE : EvOpOk P E) {ck : Option (Nat × Nat)} (hck : ∀ f g, ck = some (f, g) → ItSound P g) {n : Nat} {An : Nat → Option Jn} : ∀ (c : Code) (p : Nat) (s : St), EvOk P n c s (ev E ck n An c p s) := by
 intro c
 induction c with
 | skip => intro p s R k r h w0 φ0 a m Q hr hk; simp only [ev] at h; exact wp_skip (hk _ _ a m h (List.suffix_refl _) hr)
 | region id ops d =>
  intro p s R k r h w0 φ0 a m Q hr hk
  cases d with
  | false =>
   simp only [ev] at h
   obtain ⟨s', h1, h2, h3⟩ := evText_region (id := id) hE h
   exact h3 w0 φ0 a m hr Q fun a' m' hr' => hk .normal s' a' m' h1 h2 hr'
  | true =>
   simp only [ev] at h
   obtain ⟨s', h1, h2, h3⟩ := evDrawn_region (id := id) hm hE h
   exact h3 w0 φ0 a m hr Q fun a' m' hr' => hk .normal s' a' m' h1 h2 hr'
 | seq x y ihx ihy =>
  intro p s R k r h w0 φ0 a m Q hr hk
  simp only [ev] at h
  refine wp_seq ?_
  split at h
  ·refine ihx _ s _ _ r h w0 φ0 a m _ hr fun e s' a' m' hk' hs hr' => ?_
   cases e with
   | normal => exact ihy _ s' _ _ r hk' w0 φ0 a' m' Q hr' fun e s'' a'' m'' h1 h2 h3 => hk e s'' a'' m'' h1 (hs.trans h2) h3
   | exit id => exact hk _ s' a' m' hk' hs hr'
   | ret => exact hk _ s' a' m' hk' hs hr'
  ·refine meet_ok (ihx _ s) h hr (fun e s' a' m' he hg hs hr' => ?_) (fun e s' a' m' he hg hs hr' => ?_)
   ·simp only [id] at he; subst he
    exact ihy _ s' _ _ r hg w0 φ0 a' m' Q hr' fun e s'' a'' m'' h1 h2 h3 => hk e s'' a'' m'' h1 (hs.trans h2) h3
   ·simp only [id] at he hg
    have := hk e s' a' m' hg hs hr'
    cases e with
    | normal => exact absurd rfl he
    | exit id => exact this
    | ret => exact this
 | cond c x y ihx ihy =>
  intro p s R k r h w0 φ0 a m Q hr hk
  simp only [ev] at h
  split at h
  ·rename_i t rd hc
   refine wp_cond (opnd_bool hc hr) ?_
   cases t with
   | true => exact ihx _ s _ _ r h w0 φ0 a m Q hr hk
   | false => exact ihy _ s _ _ r h w0 φ0 a m Q hr hk
  ·rename_i rd hc
   obtain ⟨h1, h2⟩ := eqO_some h
   obtain ⟨b, hb⟩ : ∃ b, a.eval c = .bool b := opnd_ok hc hr (opnd_reads hc)
   refine wp_cond hb ?_
   cases b with
   | true => exact ihx _ s _ _ r h1 w0 φ0 a m Q hr hk
   | false => exact ihy _ s _ _ r h2 w0 φ0 a m Q hr hk
  ·cases h
 | block id x ih =>
  intro p s R k r h w0 φ0 a m Q hr hk
  simp only [ev] at h
  refine wp_block ?_
  have key : ∀ e s' a' m', k (leave id e) s' = some r → s <:+ s' → Rel n w0 φ0 s' a' m' → Exit.inBlock id Q e.to a' m'.w := by
   intro e s' a' m' h1 h2 h3
   have := hk _ s' a' m' h1 h2 h3
   cases e with
   | normal => exact this
   | ret => exact this
   | exit i =>
    simp only [leave] at this
    simp only [Ex.to, Exit.inBlock]
    split at this
    ·rename_i hb; rw [if_pos (Nat.eq_of_beq_eq_true hb)]; exact this
    ·rename_i hb; rw [if_neg fun e => by subst e; rw [Nat.beq_refl] at hb; cases hb]; exact this
  split at h
  ·exact ih _ s _ _ r h w0 φ0 a m _ hr key
  ·refine meet_ok (ih _ s) h hr (fun e s' a' m' he hg hs hr' => ?_) (fun e s' a' m' he hg hs hr' => key e s' a' m' hg hs hr')
   exact key e s' a' m' (by rw [he]; exact hg) hs hr'
 | loop x ih =>
  intro p s R k r h w0 φ0 a m Q hr hk
  simp only [ev] at h
  split at h
  ·cases h
  ·rename_i j hj
   obtain ⟨x0, h1, h2⟩ := bindO_some h
   obtain ⟨N, hN⟩ := loopO_spec h2
   obtain ⟨m0, e0, hr0⟩ := joinS_ok h1 (List.suffix_refl _) hr
   refine wp_loop_rounds N ?_
   rw [← e0]
   clear h1 h h2 e0 hr
   induction N generalizing x0 a m0 with
   | zero => cases hN
   | succ N ihN =>
    rw [rounds_succ]
    simp only [loopN] at hN
    split at hN
    ·rename_i y hy
     refine ih _ _ _ _ _ hy w0 φ0 a m0 _ hr0 fun e s' a' m' hk' hs hr' => ?_
     cases e with
     | normal =>
      obtain ⟨z, h3, h4⟩ := mapO_some hk'
      injection h4 with h4; subst h4
      obtain ⟨m1, e1, hr1⟩ := joinS_ok h3 ((fillS_suffix _ _ _ _).trans hs) hr'
      simp only [Ex.to, Exit.then]
      rw [← e1]
      first | exact ihN _ _ _ hN hr1 | exact ihN _ _ hN _ hr1 | exact ihN _ _ _ hr1 hN
     | exit id => obtain ⟨z, h3, h4⟩ := mapO_some hk'; cases h4
     | ret => obtain ⟨z, h3, h4⟩ := mapO_some hk'; cases h4
    ·rename_i y hy
     injection hN with hN; subst hN
     refine ih _ _ _ _ _ hy w0 φ0 a m0 _ hr0 fun e s' a' m' hk' hs hr' => ?_
     have hs' := (fillS_suffix j.its j.dead s x0).trans hs
     cases e with
     | normal => obtain ⟨z, h3, h4⟩ := mapO_some hk'; cases h4
     | exit id =>
      obtain ⟨z, h3, h4⟩ := mapO_some hk'
      injection h4 with h4; subst h4
      exact hk _ s' a' m' h3 hs' hr'
     | ret =>
      obtain ⟨z, h3, h4⟩ := mapO_some hk'
      injection h4 with h4; subst h4
      exact hk _ s' a' m' h3 hs' hr'
    ·cases hN
 | ret => intro p s R k r h w0 φ0 a m Q hr hk; simp only [ev] at h; exact wp_ret (hk _ _ a m h (List.suffix_refl _) hr)
 | exit id => intro p s R k r h w0 φ0 a m Q hr hk; simp only [ev] at h; exact wp_exit (hk _ _ a m h (List.suffix_refl _) hr)
 | rangeFunc g ps x y _ _ =>
  intro p s R k r h w0 φ0 a m Q hr hk
  cases g with
  | tmp t =>
   simp only [ev] at h
   obtain ⟨s', h1, h2, h3⟩ := evRange_ok hE hck h
   exact h3 w0 φ0 a m Q hr fun a' m' hr' => hk .normal s' a' m' h1 h2 hr'
  | _ => simp only [ev] at h; cases h
 | scope x _ => intro p s R k r h; simp only [ev] at h; cases h
 | label l => intro p s R k r h; simp only [ev] at h; cases h
 | goto l => intro p s R k r h; simp only [ev] at h; cases h
 | refuse w => intro p s R k r h; simp only [ev] at h; cases h

end Go.Proofs.YthnfghmjipikhaaGreatDoor.Ev
namespace Go.Proofs.YthnfghmjipikhaaGreatDoor.Ev

/-- A row that is handed over: its number, its number in the callee, what it holds. -/
structure Hd where
 id : Nat
 r : Nat
 row : Row
 kp : Bool

def boOf : Lf → List Nat
 | .own id => [id]
 | .vw id _ _ => [id]
 | .sub id _ _ _ => [id]
 | _ => []

/-- What a slice that is lent holds. -/
def contR (cfg : Cfg) (s : St) (k : K) (l : Lf) : Option (List k.T × Rds) := match l with
 | .nil => some ([], [])
 | l => match content cfg s 0 l with
  | some (sl, rds) => match castR sl.k k sl.xs with
   | some xs => some (xs, rds)
   | none => none
  | none => none

theorem content_lent {cfg : Cfg} {s s' : St} {t : Nat} {l : Lf} {sl : SL} {rds : Rds} (h : content cfg s t l = some (sl, rds)) (hnil : l ≠ .nil) {n : Nat} {w0 : World} {φ0 : Gh} {a : Act} {m : Mem}
  (hr : Rel n w0 φ0 s' a m) (hrd : Reads s' rds) {v : Value} (hv : LfC s' m l v) {φ' : Col} (hk : Keeps m.w m.w m.φ φ') (hb : ∀ id ∈ boOf l, Frees m.w m.w m.φ φ' [2 * id]) : Ro (.rs sl.e sl.k) m.w φ' sl.xs [v] := by
 cases l with
 | nil => exact absurd rfl hnil
 | ro e k xs =>
  simp only [content] at h
  injection h with h; injection h with h _; subst h
  exact Ro.keep (k := .rs e k) hv hk
 | own id =>
  simp only [content] at h
  split at h
  ·rename_i r hrow
   injection h with h; injection h with h1 h2; subst h1; subst h2
   have hg := hrd _ List.mem_cons_self
   rw [hv.2 r hg]
   exact (hr.rw id r hg).toFree (hb id (by simp [boOf])) hk
  ·cases h
 | vw id lo hi =>
  simp only [content] at h
  split at h
  ·rename_i r hrow
   injection h with h; injection h with h1 h2; subst h1; subst h2
   have hg := hrd _ List.mem_cons_self
   obtain ⟨h1, h2, h3⟩ := hv.2 r hg
   rw [h3]
   exact ro_cut ((hr.rw id r hg).toFree (hb id (by simp [boOf])) hk) h1 h2
  ·cases h
 | sub id q off ver =>
  simp only [content] at h
  split at h
  ·rename_i r i hrow hix
   split at h
   ·rename_i hver
    split at h
    ·rename_i sl' hsl
     injection h with h; injection h with h1 h2; subst h1; subst h2
     have hg := hrd (.r id, .r r) (by simp)
     have hq := hrd (.x q, .x i) (by simp)
     obtain ⟨h0, h5⟩ := hv.2 r i hg hq
     obtain ⟨h1, h2, h3, h4⟩ := h5 (Nat.eq_of_beq_eq_true hver)
     have hno : Ro (.rs r.e r.k) m.w φ' r.xs [m.ρ id] := (hr.rw id r hg).toFree (hb id (by simp [boOf])) hk
     obtain ⟨c, ad, ds, e1, _, hro, hcell⟩ := ro_elem hno h2
     rw [rd_eq h2] at hsl
     have hlen := hro.len
     have hd : ds[off]? = some ds[off] := by simp [show off < ds.length by omega]
     have := hcell off _ hd
     rw [e1, rowAddr_slice] at h4
     rw [this] at h4
     injection h4 with h4
     exact leafSl_ro hro hsl (h4 ▸ hd)
    ·cases h
   ·cases h
  ·cases h
 | int k n => simp [content] at h
 | bool b => simp [content] at h
 | str x => simp [content] at h
 | ptr b off => simp [content] at h
 | ept id q off => simp [content] at h
 | rpt k x off => simp [content] at h
 | rpa n k x => simp [content] at h
 | mp _ => simp [content] at h
 | mpb _ => simp [content] at h
 | apt n id => simp [content] at h
 | fn f => simp [content] at h
 | anyb => simp [content] at h
 | chk _ _ _ _ _ => simp [content] at h
 | clo _ _ _ => simp [content] at h
 | any => simp [content] at h
 | nilp => simp [content] at h
 | ext id q off ver p e k zs => simp [content] at h

theorem contR_ok {cfg : Cfg} {s s' : St} {k : K} {l : Lf} {xs : List k.T} {rds : Rds} (h : contR cfg s k l = some (xs, rds)) {n : Nat} {w0 : World} {φ0 : Gh} {a : Act} {m : Mem}
  (hr : Rel n w0 φ0 s' a m) (hrd : Reads s' rds) {v : Value} (hv : LfC s' m l v) {φ' : Col} (hk : Keeps m.w m.w m.φ φ') (hb : ∀ id ∈ boOf l, Frees m.w m.w m.φ φ' [2 * id]) : RoL (Ro k m.w φ') k.sz m.w φ' xs [v] := by
 by_cases hnil : l = .nil
 ·subst hnil
  simp only [contR] at h
  injection h with h; injection h with h1 h2; subst h1
  simp only [LfC] at hv; subst hv
  exact ⟨none, 0, rfl, Nat.le_refl _, Nat.zero_le _, fun h => by simp at h⟩
 ·have h' : (match content cfg s 0 l with
   | some (sl, rds) => match castR sl.k k sl.xs with
    | some xs => some (xs, rds)
    | none => none
   | none => none) = some (xs, rds) := by
   cases l <;> first | exact absurd rfl hnil | exact h
  split at h'
  ·rename_i sl rds' hc
   split at h'
   ·rename_i ys hcast
    injection h' with h'; injection h' with h1 h2; subst h1; subst h2
    have := content_lent hc hnil hr hrd hv hk hb
    exact castR_ro (e' := sl.e) hcast this
   ·cases h'
  ·cases h'

theorem contR_reads {cfg : Cfg} {s : St} {k : K} {l : Lf} {xs : List k.T} {rds : Rds} (h : contR cfg s k l = some (xs, rds)) : Reads s rds := by
 by_cases hnil : l = .nil
 ·subst hnil; simp only [contR] at h; injection h with h; injection h with _ h; subst h; exact Reads.nil _
 ·have h' : (match content cfg s 0 l with
   | some (sl, rds) => match castR sl.k k sl.xs with
    | some xs => some (xs, rds)
    | none => none
   | none => none) = some (xs, rds) := by
   cases l <;> first | exact absurd rfl hnil | exact h
  split at h'
  ·rename_i sl rds' hc
   split at h'
   ·injection h' with h'; injection h' with _ h2; subst h2; exact content_reads hc
   ·cases h'
  ·cases h'

/-- Data out of cells for a callee: rows that it owns are handed over, each under its own root; what it reads is lent. -/
def gv (cfg : Cfg) (s : St) (kp : Bool) : Nat → (k : K) → List Lf → Option (k.T × List Lf × List Hd × List Nat × Rds)
 | _, .int κ, .int κ' n :: ls => match decide (κ = κ') with
  | true => some (n, ls, [], [], [])
  | false => none
 | _, .bool, .bool b :: ls => some (b, ls, [], [], [])
 | _, .fnc f, .fn f' :: ls => match Nat.beq f f' with
  | true => some ((), ls, [], [], [])
  | false => none
 | _, .str, .str b :: ls => some (b, ls, [], [], [])
 | base, .sl e k, .nil :: ls => some ([], ls, [], [], [])
 | base, .sl e k, .own id :: ls => match s.getR id with
  | some row => match Nat.beq row.e e, castL row.k k row.xs with
   | true, some xs => some (xs, ls, [⟨id, base, row, kp⟩], [], [(.r id, .r row)])
   | _, _ => none
  | none => none
 | _, .rs e k, l :: ls => match contR cfg s k l with
  | some (xs, rds) => some (xs, ls, [], boOf l, rds)
  | none => none
 | _, .pa n k, .rpa n' k' xs :: ls => match Nat.beq n n', castR k' k xs with
  | true, some ys => some (ys, ls, [], [], [])
  | _, _ => none
 | _, .pa n k, .apt n' id :: ls => match s.getR id with
  | some row => match Nat.beq n n' && Nat.ble 1 n, castR row.k k row.xs with
   | true, some xs => some (xs, ls, [], [id], [(.r id, .r row)])
   | _, _ => none
  | none => none
 | base, .pair a b, ls => match gv cfg s kp base a ls with
  | some (x, r1, h1, b1, d1) => match gv cfg s kp (base + a.sz) b r1 with
   | some (y, r2, h2, b2, d2) => some ((x, y), r2, h1 ++ h2, b1 ++ b2, d1 ++ d2)
   | none => none
  | none => none
 | _, _, _ => none

theorem gv_reads {cfg : Cfg} {s : St} {kp : Bool} : ∀ {k : K} {base : Nat} {ls : List Lf} {x : k.T} {rest : List Lf} {hd : List Hd} {bo : List Nat} {rds : Rds}, gv cfg s kp base k ls = some (x, rest, hd, bo, rds) → Reads s rds
 | .int κ, base, ls, x, rest, hd, bo, rds, h => by
  cases ls with
  | nil => simp [gv] at h
  | cons l ls =>
   cases l <;> simp only [gv] at h <;> try (cases h; done)
   split at h
   ·injection h with h; injection h with _ h; injection h with _ h; injection h with _ h; injection h with _ h; subst h; exact Reads.nil _
   ·cases h
 | .fnc f, base, ls, x, rest, hd, bo, rds, h => by
  cases ls with
  | nil => simp [gv] at h
  | cons l ls =>
   cases l <;> simp only [gv] at h <;> try (cases h; done)
   split at h
   ·injection h with h; injection h with _ h; injection h with _ h; injection h with _ h; injection h with _ h; subst h; exact Reads.nil _
   ·cases h
 | .bool, base, ls, x, rest, hd, bo, rds, h => by
  cases ls with
  | nil => simp [gv] at h
  | cons l ls =>
   cases l <;> simp only [gv] at h <;> try (cases h; done)
   injection h with h; injection h with _ h; injection h with _ h; injection h with _ h; injection h with _ h; subst h; exact Reads.nil _
 | .str, base, ls, x, rest, hd, bo, rds, h => by
  cases ls with
  | nil => simp [gv] at h
  | cons l ls =>
   cases l <;> simp only [gv] at h <;> try (cases h; done)
   injection h with h; injection h with _ h; injection h with _ h; injection h with _ h; injection h with _ h; subst h; exact Reads.nil _
 | .sl e k, base, ls, x, rest, hd, bo, rds, h => by
  cases ls with
  | nil => simp [gv] at h
  | cons l ls =>
   cases l <;> simp only [gv] at h <;> try (cases h; done)
   ·injection h with h; injection h with _ h; injection h with _ h; injection h with _ h; injection h with _ h; subst h; exact Reads.nil _
   ·split at h
    ·rename_i row hrow
     split at h
     ·injection h with h; injection h with _ h; injection h with _ h; injection h with _ h; injection h with _ h; subst h
      intro p hp; rw [List.mem_singleton.1 hp]; exact St.getR_some.1 hrow
     ·cases h
    ·cases h
 | .pa n k, base, ls, x, rest, hd, bo, rds, h => by
  cases ls with
  | nil => simp [gv] at h
  | cons l ls =>
   cases l <;> simp only [gv] at h <;> try (cases h; done)
   ·split at h
    ·injection h with h; injection h with _ h; injection h with _ h; injection h with _ h; injection h with _ h; subst h; exact Reads.nil _
    ·cases h
   ·split at h
    ·rename_i row hrow
     split at h
     ·injection h with h; injection h with _ h; injection h with _ h; injection h with _ h; injection h with _ h; subst h
      intro p hp; rw [List.mem_singleton.1 hp]; exact St.getR_some.1 hrow
     ·cases h
    ·cases h
 | .rs e k, base, ls, x, rest, hd, bo, rds, h => by
  cases ls with
  | nil => simp [gv] at h
  | cons l ls =>
   simp only [gv] at h
   split at h
   ·rename_i xs rds' hc
    injection h with h; injection h with _ h; injection h with _ h; injection h with _ h; injection h with _ h; subst h
    exact contR_reads hc
   ·cases h
 | .pair a b, base, ls, x, rest, hd, bo, rds, h => by
  simp only [gv] at h
  split at h
  ·rename_i x1 r1 h1 b1 d1 e1
   split at h
   ·rename_i x2 r2 h2 b2 d2 e2
    injection h with h; injection h with _ h; injection h with _ h; injection h with _ h; injection h with _ h; subst h
    exact Reads.app.2 ⟨gv_reads e1, gv_reads e2⟩
   ·cases h
  ·cases h

/-- What is told of colours, of what is handed over and lent. -/
structure CalOk (m : Mem) (φ' : Col) (hd : List Hd) (bo : List Nat) : Prop where
 hd : ∀ h ∈ hd, ∀ p, Moves m.w m.w m.φ φ' (2 * h.id :: p) (2 * h.r :: p)
 bo : ∀ id ∈ bo, Frees m.w m.w m.φ φ' [2 * id]

theorem CalOk.left {m : Mem} {φ' : Col} {h1 h2 : List Hd} {b1 b2 : List Nat} (h : CalOk m φ' (h1 ++ h2) (b1 ++ b2)) : CalOk m φ' h1 b1 :=
 ⟨fun x hx => h.hd x (List.mem_append_left _ hx), fun x hx => h.bo x (List.mem_append_left _ hx)⟩
theorem CalOk.right {m : Mem} {φ' : Col} {h1 h2 : List Hd} {b1 b2 : List Nat} (h : CalOk m φ' (h1 ++ h2) (b1 ++ b2)) : CalOk m φ' h2 b2 :=
 ⟨fun x hx => h.hd x (List.mem_append_right _ hx), fun x hx => h.bo x (List.mem_append_right _ hx)⟩

theorem gv_ok {cfg : Cfg} {s s' : St} {kp : Bool} {n : Nat} {w0 : World} {φ0 : Gh} {a : Act} {m : Mem} (hr : Rel n w0 φ0 s' a m) {φ' : Col} (hk : Keeps m.w m.w m.φ φ') :
  ∀ {k : K} {base : Nat} {ls : List Lf} {x : k.T} {rest : List Lf} {hd : List Hd} {bo : List Nat} {rds : Rds}, gv cfg s kp base k ls = some (x, rest, hd, bo, rds) → Reads s' rds → CalOk m φ' hd bo → ∀ {vs : List Value}, All2 (LfC s' m) ls vs →
   ∃ v0 v1, vs = v0 ++ v1 ∧ LvC m.w φ' base k x v0 ∧ All2 (LfC s' m) rest v1
 | .int κ, base, ls, x, rest, hd, bo, rds, h, hrd, hc, vs, hv => by
  cases ls with
  | nil => simp [gv] at h
  | cons l ls =>
   cases vs with
   | nil => exact hv.elim
   | cons v vs =>
    cases l <;> simp only [gv] at h <;> try (cases h; done)
    split at h
    ·rename_i he
     have he := of_decide_eq_true he
     subst he
     injection h with h; injection h with h1 h; injection h with h2 h; subst h1; subst h2
     exact ⟨[v], vs, rfl, by have := hv.1; simp only [LfC] at this; subst this; rfl, hv.2⟩
    ·cases h
 | .fnc f, base, ls, x, rest, hd, bo, rds, h, hrd, hc, vs, hv => by
  cases ls with
  | nil => simp [gv] at h
  | cons l ls =>
   cases vs with
   | nil => exact hv.elim
   | cons v vs =>
    cases l <;> simp only [gv] at h <;> try (cases h; done)
    split at h
    ·rename_i he
     have he := Nat.eq_of_beq_eq_true he
     subst he
     injection h with h; injection h with h1 h; injection h with h2 h; subst h1; subst h2
     exact ⟨[v], vs, rfl, by have := hv.1; simp only [LfC] at this; subst this; rfl, hv.2⟩
    ·cases h
 | .bool, base, ls, x, rest, hd, bo, rds, h, hrd, hc, vs, hv => by
  cases ls with
  | nil => simp [gv] at h
  | cons l ls =>
   cases vs with
   | nil => exact hv.elim
   | cons v vs =>
    cases l <;> simp only [gv] at h <;> try (cases h; done)
    injection h with h; injection h with h1 h; injection h with h2 h; subst h1; subst h2
    exact ⟨[v], vs, rfl, by have := hv.1; simp only [LfC] at this; subst this; rfl, hv.2⟩
 | .str, base, ls, x, rest, hd, bo, rds, h, hrd, hc, vs, hv => by
  cases ls with
  | nil => simp [gv] at h
  | cons l ls =>
   cases vs with
   | nil => exact hv.elim
   | cons v vs =>
    cases l <;> simp only [gv] at h <;> try (cases h; done)
    injection h with h; injection h with h1 h; injection h with h2 h; subst h1; subst h2
    exact ⟨[v], vs, rfl, by have := hv.1; simp only [LfC] at this; subst this; rfl, hv.2⟩
 | .sl e k, base, ls, x, rest, hd, bo, rds, h, hrd, hc, vs, hv => by
  cases ls with
  | nil => simp [gv] at h
  | cons l ls =>
   cases vs with
   | nil => exact hv.elim
   | cons v vs =>
    cases l <;> simp only [gv] at h <;> try (cases h; done)
    ·injection h with h; injection h with h1 h; injection h with h2 h; subst h1; subst h2
     refine ⟨[v], vs, rfl, ⟨v, rfl, ?_⟩, hv.2⟩
     have := hv.1
     simp only [LfC] at this; subst this
     exact ⟨[], owns_nil _ _ _ _, fun g hg => by simp [Value.ownBlock] at hg, fun i h => by simp at h⟩
    ·split at h
     ·rename_i id _ row hrow
      split at h
      ·rename_i xs hb hcast
       injection h with h; injection h with h1 h; injection h with h2 h; injection h with h3 h; injection h with h4 h5; subst h1; subst h2; subst h3; subst h4; subst h5
       refine ⟨[v], vs, rfl, ⟨v, rfl, ?_⟩, hv.2⟩
       have hg := hrd (.r id, .r row) (by simp)
       rw [hv.1.2 row hg]
       have hm := hc.hd ⟨id, base, row, kp⟩ (by simp) []
       have := (hr.rw id row hg).move hm hk
       have hb := Nat.eq_of_beq_eq_true hb
       obtain ⟨ek, rfl⟩ := castL_some hcast
       subst hb; subst ek
       exact this
      ·cases h
     ·cases h
 | .pa n k, base, ls, x, rest, hd, bo, rds, h, hrd, hc, vs, hv => by
  cases ls with
  | nil => simp [gv] at h
  | cons l ls =>
   cases vs with
   | nil => exact hv.elim
   | cons v vs =>
    cases l <;> simp only [gv] at h <;> try (cases h; done)
    ·rename_i n' k' xs
     split at h
     ·rename_i ys hn hcast
      have hn := Nat.eq_of_beq_eq_true hn
      subst hn
      injection h with h; injection h with h1 h; injection h with h2 h; subst h1; subst h2
      have hro : Ro (.pa n k') m.w m.φ xs [v] := hv.1
      refine ⟨[v], vs, rfl, Ro.keep (k := .pa n k) (Ro.sim (k := .pa n k') (k' := .pa n k) ?_ (castR_some hcast).2 hro) hk, hv.2⟩
      simp only [K.sim, Bool.and_eq_true]
      exact ⟨by simp, (castR_some hcast).1⟩
     ·cases h
    ·rename_i n' id
     split at h
     ·rename_i row hrow
      split at h
      ·rename_i xs hn hcast
       simp only [Bool.and_eq_true] at hn
       have hn1 := Nat.eq_of_beq_eq_true hn.1
       have hn2 := Nat.le_of_ble_eq_true hn.2
       subst hn1
       injection h with h; injection h with h1 h; injection h with h2 h; injection h with h3 h; injection h with h4 h5; subst h1; subst h2; subst h3; subst h4; subst h5
       have hg := hrd (.r id, .r row) (by simp)
       obtain ⟨hlen, hvv⟩ := hv.1.2 row hg
       have hfree : Ro (.rs row.e row.k) m.w φ' row.xs [m.ρ id] := (hr.rw id row hg).toFree (hc.bo id (by simp)) hk
       have hpa := Ro.ofSl hfree (by omega)
       rw [hlen] at hpa
       refine ⟨[v], vs, rfl, ?_, hv.2⟩
       rw [hvv]
       refine Ro.sim (k := .pa n row.k) (k' := .pa n k) ?_ (castR_some hcast).2 hpa
       simp only [K.sim, Bool.and_eq_true]
       exact ⟨by simp, (castR_some hcast).1⟩
      ·cases h
     ·cases h
 | .rs e k, base, ls, x, rest, hd, bo, rds, h, hrd, hc, vs, hv => by
  cases ls with
  | nil => simp [gv] at h
  | cons l ls =>
   cases vs with
   | nil => exact hv.elim
   | cons v vs =>
    simp only [gv] at h
    split at h
    ·rename_i xs rds' hcont
     injection h with h; injection h with h1 h; injection h with h2 h; injection h with h3 h; injection h with h4 h5; subst h1; subst h2; subst h3; subst h4; subst h5
     exact ⟨[v], vs, rfl, contR_ok hcont hr hrd hv.1 hk hc.bo, hv.2⟩
    ·cases h
 | .pair a b, base, ls, x, rest, hd, bo, rds, h, hrd, hc, vs, hv => by
  simp only [gv] at h
  split at h
  ·rename_i x1 r1 h1 b1 d1 e1
   split at h
   ·rename_i x2 r2 h2 b2 d2 e2
    injection h with h; injection h with h3 h; injection h with h4 h; injection h with h5 h; injection h with h6 h7; subst h3; subst h4; subst h5; subst h6; subst h7
    obtain ⟨hrd1, hrd2⟩ := Reads.app.1 hrd
    obtain ⟨v0, v1, rfl, hl, hrest⟩ := gv_ok hr hk e1 hrd1 hc.left hv
    obtain ⟨v2, v3, rfl, hl2, hrest2⟩ := gv_ok hr hk e2 hrd2 hc.right hrest
    exact ⟨v0 ++ v2, v3, by rw [List.append_assoc], ⟨v0, v2, rfl, hl, hl2⟩, hrest2⟩
   ·cases h
  ·cases h

end Go.Proofs.YthnfghmjipikhaaGreatDoor.Ev
namespace Go.Proofs.YthnfghmjipikhaaGreatDoor.Ev

/-- A variable that is handed over: its box, the first cell, how many, the parameter's place. -/
structure Bx where
 b : Nat
 off : Nat
 sz : Nat
 i : Nat

def avG : Bool → K → AV → Option (List Lf)
 | true, _, .agg ls => some ls
 | false, k, .one l => match Nat.beq k.sz 1 with
  | true => some [l]
  | false => none
 | _, _, _ => none

theorem avG_ok {g : Bool} {k : K} {v : AV} {ls : List Lf} (h : avG g k v = some ls) {s : St} {m : Mem} {x : Value} (hv : AVC s m v x) : ∃ cs, x = toV g cs ∧ All2 (LfC s m) ls cs ∧ (g = true ∨ k.sz = 1) := by
 unfold avG at h
 split at h
 ·injection h with h; subst h
  obtain ⟨cs, rfl, hc⟩ := hv
  exact ⟨cs, rfl, hc, .inl rfl⟩
 ·split at h
  ·rename_i hb
   injection h with h; subst h
   exact ⟨[x], rfl, ⟨hv, trivial⟩, .inr (Nat.eq_of_beq_eq_true hb)⟩
  ·cases h
 ·cases h

def ptrOf : AV → Option (Nat × Nat)
 | .one (.ptr b off) => some (b, off)
 | _ => none

theorem ptrOf_eq {v : AV} {b off : Nat} (h : ptrOf v = some (b, off)) : v = .one (.ptr b off) := by
 unfold ptrOf at h
 split at h
 ·injection h with h; injection h with h1 h2; subst h1; subst h2; rfl
 ·cases h

def gArgs (cfg : Cfg) (s : St) : Nat → (ps : List PK) → List AV → Option (Ts (ins ps) × List Hd × List Nat × List Bx × Rds)
 | _, [], [] => some ((), [], [], [], [])
 | i, .val g k kp :: ps, v :: vs => match avG g k v with
  | some ls => match gv cfg s kp (pR i) k ls with
   | some (x, [], hd, bo, rds) => match gArgs cfg s (i + 1) ps vs with
    | some (y, hd', bo', bx, rds') => some ((x, y), hd ++ hd', bo ++ bo', bx, rds ++ rds')
    | none => none
   | _ => none
  | none => none
 | i, .ptr k :: ps, v :: vs => match ptrOf v with
  | some (b, off) => match s.getB b with
   | some c => match gv cfg s false (pR i) k ((c.drop off).take k.sz) with
    | some (x, [], hd, bo, rds) => match gArgs cfg s (i + 1) ps vs with
     | some (y, hd', bo', bx, rds') => some ((x, y), hd ++ hd', bo ++ bo', ⟨b, off, k.sz, i⟩ :: bx, ((.b b, .b c) :: rds) ++ rds')
     | none => none
    | _ => none
   | none => none
  | none => none
 | _, _, _ => none

theorem gArgs_reads {cfg : Cfg} {s : St} : ∀ {ps : List PK} {i : Nat} {vs : List AV} {x : Ts (ins ps)} {hd : List Hd} {bo : List Nat} {bx : List Bx} {rds : Rds}, gArgs cfg s i ps vs = some (x, hd, bo, bx, rds) → Reads s rds
 | [], i, vs, x, hd, bo, bx, rds, h => by
  cases vs with
  | nil => simp only [gArgs] at h; injection h with h; injection h with _ h; injection h with _ h; injection h with _ h; injection h with _ h; subst h; exact Reads.nil _
  | cons _ _ => simp [gArgs] at h
 | .val g k kp :: ps, i, vs, x, hd, bo, bx, rds, h => by
  cases vs with
  | nil => simp [gArgs] at h
  | cons v vs =>
   simp only [gArgs] at h
   split at h
   ·split at h
    ·rename_i e1
     split at h
     ·rename_i e2
      injection h with h; injection h with _ h; injection h with _ h; injection h with _ h; injection h with _ h; subst h
      exact Reads.app.2 ⟨gv_reads e1, gArgs_reads e2⟩
     ·cases h
    ·cases h
   ·cases h
 | .ptr k :: ps, i, vs, x, hd, bo, bx, rds, h => by
  cases vs with
  | nil => simp [gArgs] at h
  | cons v vs =>
   simp only [gArgs] at h
   split at h
   ·rename_i b off epv
    split at h
    ·rename_i c hc
     split at h
     ·rename_i e1
      split at h
      ·rename_i e2
       injection h with h; injection h with _ h; injection h with _ h; injection h with _ h; injection h with _ h; subst h
       refine Reads.app.2 ⟨fun p hp => ?_, gArgs_reads e2⟩
       rcases List.mem_cons.1 hp with rfl | hp
       ·exact St.getB_some.1 hc
       ·exact gv_reads e1 p hp
      ·cases h
     ·cases h
    ·cases h
   ·cases h

def cellsAt (w : World) (g : Nat) : List Value := match w.heap[g]? with
 | some (.cells a _ _) => a.toList
 | _ => []

/-- The place of a variable that is handed over. -/
def plOf (m : Mem) (x : Bx) : Plc :=
 ⟨(m.β x.b).g, (m.β x.b).t, (cellsAt m.w (m.β x.b).g).take ((m.β x.b).pre.length + x.off), (cellsAt m.w (m.β x.b).g).drop ((m.β x.b).pre.length + x.off + x.sz)⟩

theorem plOf_eq {m : Mem} {x : Bx} {cs : List Value} {ty : TypeId} (hg : m.w.heap[(m.β x.b).g]? = some (.cells ((m.β x.b).pre ++ cs ++ (m.β x.b).post).toArray ty (0, 0))) (h : x.off + x.sz ≤ cs.length) :
  plOf m x = ⟨(m.β x.b).g, (m.β x.b).t, (m.β x.b).pre ++ cs.take x.off, cs.drop (x.off + x.sz) ++ (m.β x.b).post⟩ := by
 have hc : cellsAt m.w (m.β x.b).g = (m.β x.b).pre ++ cs ++ (m.β x.b).post := by simp only [cellsAt, hg]
 unfold plOf
 rw [hc]
 congr 1
 ·rw [List.append_assoc, List.take_length_add_append, List.take_append_of_le_length (by omega)]
 ·rw [List.append_assoc, Nat.add_assoc, List.drop_length_add_append, List.drop_append_of_le_length (by omega)]

theorem gArgs_ok {cfg : Cfg} {s s' : St} {n : Nat} {w0 : World} {φ0 : Gh} {a : Act} {m : Mem} (hr : Rel n w0 φ0 s' a m) {φ' : Col} (hk : Keeps m.w m.w m.φ φ') {pls : Nat → Plc} :
  ∀ {ps : List PK} {i : Nat} {vs : List AV} {x : Ts (ins ps)} {hd : List Hd} {bo : List Nat} {bx : List Bx} {rds : Rds}, gArgs cfg s i ps vs = some (x, hd, bo, bx, rds) → Reads s' rds → CalOk m φ' hd bo →
   (∀ y ∈ bx, Moves m.w m.w m.φ φ' [2 * y.b + 1] [2 * pB y.i + 1]) → (∀ y ∈ bx, pls y.i = plOf m y) → ∀ {vals : List Value}, All2 (AVC s' m) vs vals → ArgsC m.w φ' pls i ps x vals
 | [], i, vs, x, hd, bo, bx, rds, h, hrd, hc, hbx, hpl, vals, hv => by
  cases vs with
  | nil => cases vals with
   | nil => exact ⟨rfl, hr.gi.keep hk⟩
   | cons _ _ => exact hv.elim
  | cons _ _ => simp [gArgs] at h
 | .val g k kp :: ps, i, vs, x, hd, bo, bx, rds, h, hrd, hc, hbx, hpl, vals, hv => by
  cases vs with
  | nil => simp [gArgs] at h
  | cons v vs =>
   cases vals with
   | nil => exact hv.elim
   | cons u vals =>
    simp only [gArgs] at h
    split at h
    ·rename_i ls els
     split at h
     ·rename_i e1
      split at h
      ·rename_i e2
       injection h with h; injection h with h1 h; injection h with h2 h; injection h with h3 h; injection h with h4 h5; subst h1; subst h2; subst h3; subst h4; subst h5
       obtain ⟨hrd1, hrd2⟩ := Reads.app.1 hrd
       obtain ⟨cs, rfl, hcs, hg⟩ := avG_ok els hv.1
       obtain ⟨v0, v1, rfl, hl, hrest⟩ := gv_ok hr hk e1 hrd1 hc.left hcs
       have : v1 = [] := by cases v1 with
        | nil => rfl
        | cons _ _ => exact hrest.elim
       subst this
       rw [List.append_nil]
       exact ⟨v0, vals, rfl, hl, hg, gArgs_ok hr hk e2 hrd2 hc.right hbx hpl hv.2⟩
      ·cases h
     ·cases h
    ·cases h
 | .ptr k :: ps, i, vs, x, hd, bo, bx, rds, h, hrd, hc, hbx, hpl, vals, hv => by
  cases vs with
  | nil => simp [gArgs] at h
  | cons v vs =>
   cases vals with
   | nil => exact hv.elim
   | cons u vals =>
    simp only [gArgs] at h
    split at h
    ·rename_i b off epv
     split at h
     ·rename_i c hcb
      split at h
      ·rename_i e1
       split at h
       ·rename_i e2
        injection h with h; injection h with h1 h; injection h with h2 h; injection h with h3 h; injection h with h4 h5; subst h1; subst h2; subst h3; subst h4; subst h5
        obtain ⟨hrd1, hrd2⟩ := Reads.app.1 hrd
        have hgb := hrd1 (.b b, .b c) List.mem_cons_self
        obtain ⟨cs, hcs, hone, hcol, hg⟩ := hr.bx b c hgb
        have hp := (ptrOf_eq epv ▸ hv.1 : AVC s' m (.one (.ptr b off)) u).2 c hgb
        obtain ⟨v0, v1, ev, hl, hrest⟩ := gv_ok hr hk e1 (fun p hp => hrd1 p (List.mem_cons_of_mem _ hp)) hc.left (All2.take k.sz (All2.drop off hcs))
        have : v1 = [] := by cases v1 with
         | nil => rfl
         | cons _ _ => exact hrest.elim
        subst this
        rw [List.append_nil] at ev
        have hlen := hl.len
        rw [← ev, List.length_take, List.length_drop] at hlen
        have hpos := k.sz_pos
        have hfit : off + k.sz ≤ cs.length := by omega
        have hpi := hpl ⟨b, off, k.sz, i⟩ List.mem_cons_self
        have hpe := plOf_eq (m := m) (x := ⟨b, off, k.sz, i⟩) (cs := cs) hg hfit
        simp only at hpi
        rw [hpe] at hpi
        refine ⟨v0, vals, ?_, ⟨?_, ?_⟩, hl, gArgs_ok hr hk e2 hrd2 hc.right (fun y hy => hbx y (List.mem_cons_of_mem _ hy)) (fun y hy => hpl y (List.mem_cons_of_mem _ hy)) hv.2⟩
        ·rw [hp, hpi]; simp only [List.length_append, List.length_take]
         rw [show min off cs.length = off by omega]
        ·rw [hpi]
         simp only
         rw [hg, ← ev]
         congr 2
         simp only [List.append_assoc]
         congr 2
         rw [← List.append_assoc (List.take k.sz _), ← List.drop_drop, List.take_append_drop, ← List.append_assoc, List.take_append_drop]
        ·rw [hpi]
         have hlt : (m.β b).g < m.w.heap.size := (Array.getElem?_eq_some_iff.1 hg).1
         exact (hbx ⟨b, off, k.sz, i⟩ List.mem_cons_self (m.β b).g [] hcol hlt).2
       ·cases h
      ·cases h
     ·cases h
    ·cases h

end Go.Proofs.YthnfghmjipikhaaGreatDoor.Ev
namespace Go.Proofs.YthnfghmjipikhaaGreatDoor.Ev

/-- No slice in it is only read. -/
def K.noRs : K → Bool
 | .rs _ _ => false
 | .pa _ _ => false
 | .sl _ k => k.noRs
 | .pair a b => a.noRs && b.noRs
 | _ => true

theorem Ow.moveN : ∀ {k : K} {w w' : World} {φ φ' : Col} {p p' : Path} {x : k.T} {cs : List Value}, k.noRs = true → Ow k w φ p x cs → Moves w w' φ φ' p p' → Ow k w' φ' p' x cs
 | .int _, _, _, _, _, _, _, _, _, _, h, _ => h
 | .bool, _, _, _, _, _, _, _, _, _, h, _ => h
 | .fnc _, _, _, _, _, _, _, _, _, _, h, _ => h
 | .str, _, _, _, _, _, _, _, _, _, h, _ => h
 | .rs _ k, _, _, _, _, _, _, _, _, hn, _, _ => by simp [K.noRs] at hn
 | .pa _ k, _, _, _, _, _, _, _, _, hn, _, _ => by simp [K.noRs] at hn
 | .sl e k, w, w', φ, φ', p, p', xs, cs, hn, h, hm => by
  obtain ⟨v, rfl, inner, ho, hc, hi⟩ := h
  refine ⟨v, rfl, inner, owns_same ho fun g hg => ?_, fun g hg => ?_, fun i h => Ow.moveN (by simpa [K.noRs] using hn) (hi i h) (hm.sub [i])⟩
  ·exact (hm g [] (by rw [List.append_nil]; exact hc g hg) (own_block_lt ho hg)).1
  ·have := (hm g [] (by rw [List.append_nil]; exact hc g hg) (own_block_lt ho hg)).2
   rwa [List.append_nil] at this
 | .pair _ _, _, _, _, _, _, _, _, _, hn, h, hm => by
  simp only [K.noRs, Bool.and_eq_true] at hn
  obtain ⟨c0, c1, rfl, h0, h1⟩ := h
  exact ⟨c0, c1, rfl, Ow.moveN hn.1 h0 (hm.sub [0]), Ow.moveN hn.2 h1 (hm.sub [1])⟩

/-- What is only read comes back too: there is none of it, or what is nobody's stays so. -/
def Back (k : K) (w : World) (φ φ' : Col) : Prop := k.noRs = true ∨ Keeps w w φ φ'

theorem Back.left {a b : K} {w : World} {φ φ' : Col} (h : Back (.pair a b) w φ φ') : Back a w φ φ' := h.imp (fun h => by simp only [K.noRs, Bool.and_eq_true] at h; exact h.1) id
theorem Back.right {a b : K} {w : World} {φ φ' : Col} (h : Back (.pair a b) w φ φ') : Back b w φ φ' := h.imp (fun h => by simp only [K.noRs, Bool.and_eq_true] at h; exact h.2) id

theorem OwL.back {k : K} {e : Nat} {w : World} {φ φ' : Col} {p p' : Path} {xs : List k.T} {v : Value} (h : OwL (Ow k w φ) e k.sz w φ p xs v) (hb : Back (.sl e k) w φ φ') (hm : Moves w w φ φ' p p') :
  OwL (Ow k w φ') e k.sz w φ' p' xs v := by
 have h' : Ow (.sl e k) w φ p xs [v] := ⟨v, rfl, h⟩
 have : Ow (.sl e k) w φ' p' xs [v] := hb.elim (fun hn => Ow.moveN hn h' hm) (fun hk => Ow.move h' hm hk)
 obtain ⟨v', e', h''⟩ := this
 injection e' with e' _
 rw [e']; exact h''

/-- The kind of the slice at a cell. -/
def leafK : K → Nat → Option (Nat × K)
 | .sl e k, 0 => some (e, k)
 | .pair a b, j => match Nat.blt j a.sz with
  | true => leafK a j
  | false => leafK b (j - a.sz)
 | _, _ => none

theorem leafK_left {a b : K} {j : Nat} (h : j < a.sz) : leafK (.pair a b) j = leafK a j := by simp only [leafK, blt_iff.2 h]
theorem leafK_right {a b : K} {j : Nat} : leafK (.pair a b) (a.sz + j) = leafK b j := by
 have : Nat.blt (a.sz + j) a.sz = false := blt_false.2 (by omega)
 simp only [leafK, this, Nat.add_sub_cancel_left]

/-- The rows of data's cells. -/
def lvRows : Nat → (k : K) → k.T → List (Nat × Row)
 | nb, .sl e k, xs => [(nb, ⟨e, k, xs, 0⟩)]
 | nb, .pair a b, x => lvRows nb a x.1 ++ lvRows (nb + a.sz) b x.2
 | _, _, _ => []

theorem lvRows_ok {w : World} {φ : Col} : ∀ {k : K} {base nb : Nat} {x : k.T} {cs : List Value}, LvC w φ base k x cs → ∀ c row, (c, row) ∈ lvRows nb k x →
  ∃ j v, c = nb + j ∧ j < k.sz ∧ cs[j]? = some v ∧ leafK k j = some (row.e, row.k) ∧ OwL (Ow row.k w φ) row.e row.k.sz w φ [2 * (base + j)] row.xs v
 | .int _, _, _, _, _, _, _, _, hm => by simp [lvRows] at hm
 | .bool, _, _, _, _, _, _, _, hm => by simp [lvRows] at hm
 | .fnc _, _, _, _, _, _, _, _, hm => by simp [lvRows] at hm
 | .str, _, _, _, _, _, _, _, hm => by simp [lvRows] at hm
 | .rs _ _, _, _, _, _, _, _, _, hm => by simp [lvRows] at hm
 | .pa _ _, _, _, _, _, _, _, _, hm => by simp [lvRows] at hm
 | .sl e k, base, nb, xs, cs, h, c, row, hm => by
  obtain ⟨v, rfl, h⟩ := h
  simp only [lvRows, List.mem_singleton] at hm
  injection hm with h1 h2; subst h1; subst h2
  exact ⟨0, v, rfl, Nat.one_pos, rfl, rfl, h⟩
 | .pair a b, base, nb, x, cs, h, c, row, hm => by
  obtain ⟨c0, c1, rfl, h0, h1⟩ := h
  simp only [lvRows] at hm
  rcases List.mem_append.1 hm with hm | hm
  ·obtain ⟨j, v, e1, e2, e3, e4, e5⟩ := lvRows_ok h0 c row hm
   refine ⟨j, v, e1, by simp only [K.sz]; omega, ?_, by rw [leafK_left e2]; exact e4, e5⟩
   rw [List.getElem?_append_left (by rw [h0.len]; exact e2)]; exact e3
  ·obtain ⟨j, v, e1, e2, e3, e4, e5⟩ := lvRows_ok h1 c row hm
   refine ⟨a.sz + j, v, by omega, by simp only [K.sz]; omega, ?_, by rw [leafK_right]; exact e4, by rw [← Nat.add_assoc]; exact e5⟩
   rw [List.getElem?_append_right (by rw [h0.len]; omega), h0.len, Nat.add_sub_cancel_left]; exact e3

/-- Cells out of a call, told by new names. -/
theorem leaves_back {w : World} {φ : Col} {s1 : St} {m1 : Mem} (hw : m1.w = w) : ∀ {k : K} {base nb : Nat} {x : k.T} {cs : List Value}, LvC w φ base k x cs → Back k w φ m1.φ →
  (∀ j v, cs[j]? = some v → (leafK k j).isSome = true → LfC s1 m1 (.own (nb + j)) v) → All2 (LfC s1 m1) (leaves k x Lf.own nb) cs
 | .int _, _, _, _, _, h, _, _ => by simp only [LvC] at h; subst h; exact ⟨rfl, trivial⟩
 | .bool, _, _, _, _, h, _, _ => by simp only [LvC] at h; subst h; exact ⟨rfl, trivial⟩
 | .fnc _, _, _, _, _, h, _, _ => by simp only [LvC] at h; subst h; exact ⟨rfl, trivial⟩
 | .str, _, _, _, _, h, _, _ => by simp only [LvC] at h; subst h; exact ⟨rfl, trivial⟩
 | .pa n k, base, nb, xs, cs, h, hb, _ => by
  have hk : Keeps w w φ m1.φ := hb.resolve_left (by simp [K.noRs])
  have h' : Ro (.pa n k) w φ xs cs := h
  have h2 := h'.keep hk
  rcases h with ⟨rfl, rfl⟩ | ⟨A, rfl, _⟩
  ·exact ⟨.inl ⟨rfl, rfl⟩, trivial⟩
  ·refine ⟨?_, trivial⟩
   show Ro (.pa n k) m1.w m1.φ xs _
   rw [hw]; exact h2
 | .rs e k, base, nb, xs, cs, h, hb, _ => by
  have hk : Keeps w w φ m1.φ := hb.resolve_left (by simp [K.noRs])
  have h' : Ro (.rs e k) w φ xs cs := h
  have h2 := h'.keep hk
  obtain ⟨A, c, rfl, _⟩ := h
  refine ⟨?_, trivial⟩
  show Ro (.rs e k) m1.w m1.φ xs _
  rw [hw]; exact h2
 | .sl e k, base, nb, xs, cs, h, _, hm => by
  obtain ⟨v, rfl, h⟩ := h
  exact ⟨hm 0 v rfl rfl, trivial⟩
 | .pair a b, base, nb, x, cs, h, hb, hm => by
  obtain ⟨c0, c1, rfl, h0, h1⟩ := h
  refine All2.app (leaves_back hw h0 hb.left fun j v hv hl => ?_) (leaves_back hw h1 hb.right fun j v hv hl => ?_)
  ·have hj : j < a.sz := by rw [← h0.len]; exact (List.getElem?_eq_some_iff.1 hv).1
   refine hm j v ?_ (by rw [leafK_left hj]; exact hl)
   rw [List.getElem?_append_left (by rw [h0.len]; exact hj)]; exact hv
  ·rw [Nat.add_assoc]
   refine hm (a.sz + j) v ?_ (by rw [leafK_right]; exact hl)
   rw [List.getElem?_append_right (by rw [h0.len]; omega), h0.len, Nat.add_sub_cancel_left]; exact hv

/-- What was handed over, at its cell. -/
theorem gv_cells {cfg : Cfg} {s s' : St} {kp : Bool} {n : Nat} {w0 : World} {φ0 : Gh} {a : Act} {m : Mem} (hr : Rel n w0 φ0 s' a m) :
  ∀ {k : K} {base : Nat} {ls : List Lf} {x : k.T} {rest : List Lf} {hd : List Hd} {bo : List Nat} {rds : Rds}, gv cfg s kp base k ls = some (x, rest, hd, bo, rds) → Reads s' rds → ∀ {vs : List Value}, All2 (LfC s' m) ls vs →
   ls.length = k.sz + rest.length ∧ (∃ v0 v1, vs = v0 ++ v1 ∧ v0.length = k.sz ∧ All2 (LfC s' m) rest v1) ∧
   ∀ h ∈ hd, ∃ j, h.r = base + j ∧ j < k.sz ∧ vs[j]? = some (m.ρ h.id) ∧ leafK k j = some (h.row.e, h.row.k) ∧ s'.get (.r h.id) = some (.r h.row) ∧ h.kp = kp
 | .int κ, base, ls, x, rest, hd, bo, rds, h, hrd, vs, hv => by
  cases ls with
  | nil => simp [gv] at h
  | cons l ls =>
   cases vs with
   | nil => exact hv.elim
   | cons v vs =>
    cases l <;> simp only [gv] at h <;> try (cases h; done)
    split at h
    ·injection h with h; injection h with h1 h; injection h with h2 h; injection h with h3 h; subst h2; subst h3
     exact ⟨by simp [K.sz]; omega, ⟨[v], vs, rfl, rfl, hv.2⟩, fun h hh => nomatch hh⟩
    ·cases h
 | .fnc f, base, ls, x, rest, hd, bo, rds, h, hrd, vs, hv => by
  cases ls with
  | nil => simp [gv] at h
  | cons l ls =>
   cases vs with
   | nil => exact hv.elim
   | cons v vs =>
    cases l <;> simp only [gv] at h <;> try (cases h; done)
    split at h
    ·injection h with h; injection h with h1 h; injection h with h2 h; injection h with h3 h; subst h2; subst h3
     exact ⟨by simp [K.sz]; omega, ⟨[v], vs, rfl, rfl, hv.2⟩, fun h hh => nomatch hh⟩
    ·cases h
 | .bool, base, ls, x, rest, hd, bo, rds, h, hrd, vs, hv => by
  cases ls with
  | nil => simp [gv] at h
  | cons l ls =>
   cases vs with
   | nil => exact hv.elim
   | cons v vs =>
    cases l <;> simp only [gv] at h <;> try (cases h; done)
    injection h with h; injection h with h1 h; injection h with h2 h; injection h with h3 h; subst h2; subst h3
    exact ⟨by simp [K.sz]; omega, ⟨[v], vs, rfl, rfl, hv.2⟩, fun h hh => nomatch hh⟩
 | .str, base, ls, x, rest, hd, bo, rds, h, hrd, vs, hv => by
  cases ls with
  | nil => simp [gv] at h
  | cons l ls =>
   cases vs with
   | nil => exact hv.elim
   | cons v vs =>
    cases l <;> simp only [gv] at h <;> try (cases h; done)
    injection h with h; injection h with h1 h; injection h with h2 h; injection h with h3 h; subst h2; subst h3
    exact ⟨by simp [K.sz]; omega, ⟨[v], vs, rfl, rfl, hv.2⟩, fun h hh => nomatch hh⟩
 | .sl e k, base, ls, x, rest, hd, bo, rds, h, hrd, vs, hv => by
  cases ls with
  | nil => simp [gv] at h
  | cons l ls =>
   cases vs with
   | nil => exact hv.elim
   | cons v vs =>
    cases l <;> simp only [gv] at h <;> try (cases h; done)
    ·injection h with h; injection h with h1 h; injection h with h2 h; injection h with h3 h; subst h2; subst h3
     exact ⟨by simp [K.sz]; omega, ⟨[v], vs, rfl, rfl, hv.2⟩, fun h hh => nomatch hh⟩
    ·split at h
     ·rename_i id _ row hrow
      split at h
      ·rename_i xs hb hcast
       injection h with h; injection h with h1 h; injection h with h2 h; injection h with h3 h; injection h with h4 h5; subst h1; subst h2; subst h3; subst h4; subst h5
       refine ⟨by simp [K.sz]; omega, ⟨[v], vs, rfl, rfl, hv.2⟩, fun h hh => ?_⟩
       rw [List.mem_singleton.1 hh]
       have hg := hrd (.r id, .r row) (by simp)
       refine ⟨0, rfl, Nat.one_pos, by simp [hv.1.2 row hg], ?_, hg, rfl⟩
       have hb := Nat.eq_of_beq_eq_true hb
       obtain ⟨ek, _⟩ := castL_some hcast
       simp only [leafK, hb, ek]
      ·cases h
     ·cases h
 | .pa n k, base, ls, x, rest, hd, bo, rds, h, hrd, vs, hv => by
  cases ls with
  | nil => simp [gv] at h
  | cons l ls =>
   cases vs with
   | nil => exact hv.elim
   | cons v vs =>
    cases l <;> simp only [gv] at h <;> try (cases h; done)
    ·split at h
     ·injection h with h; injection h with h1 h; injection h with h2 h; injection h with h3 h; subst h2; subst h3
      exact ⟨by simp [K.sz]; omega, ⟨[v], vs, rfl, rfl, hv.2⟩, fun h hh => nomatch hh⟩
     ·cases h
    ·split at h
     ·split at h
      ·injection h with h; injection h with h1 h; injection h with h2 h; injection h with h3 h; subst h2; subst h3
       exact ⟨by simp [K.sz]; omega, ⟨[v], vs, rfl, rfl, hv.2⟩, fun h hh => nomatch hh⟩
      ·cases h
     ·cases h
 | .rs e k, base, ls, x, rest, hd, bo, rds, h, hrd, vs, hv => by
  cases ls with
  | nil => simp [gv] at h
  | cons l ls =>
   cases vs with
   | nil => exact hv.elim
   | cons v vs =>
    simp only [gv] at h
    split at h
    ·injection h with h; injection h with h1 h; injection h with h2 h; injection h with h3 h; subst h2; subst h3
     exact ⟨by simp [K.sz]; omega, ⟨[v], vs, rfl, rfl, hv.2⟩, fun h hh => nomatch hh⟩
    ·cases h
 | .pair a b, base, ls, x, rest, hd, bo, rds, h, hrd, vs, hv => by
  simp only [gv] at h
  split at h
  ·rename_i x1 r1 h1 b1 d1 e1
   split at h
   ·rename_i x2 r2 h2 b2 d2 e2
    injection h with h; injection h with h3 h; injection h with h4 h; injection h with h5 h; injection h with h6 h7; subst h3; subst h4; subst h5; subst h6; subst h7
    obtain ⟨hrd1, hrd2⟩ := Reads.app.1 hrd
    obtain ⟨l1, ⟨v0, v1, ev, hl0, hrest⟩, g1⟩ := gv_cells hr e1 hrd1 hv
    obtain ⟨l2, ⟨v2, v3, ev2, hl2, hrest2⟩, g2⟩ := gv_cells hr e2 hrd2 hrest
    subst ev2; subst ev
    refine ⟨by simp only [K.sz]; omega, ⟨v0 ++ v2, v3, by rw [List.append_assoc], by simp [K.sz]; omega, hrest2⟩, fun h hh => ?_⟩
    rcases List.mem_append.1 hh with hh | hh
    ·obtain ⟨j, f1, f2, f3, f4, f5⟩ := g1 h hh
     exact ⟨j, f1, by simp only [K.sz]; omega, f3, by rw [leafK_left f2]; exact f4, f5⟩
    ·obtain ⟨j, f1, f2, f3, f4, f5⟩ := g2 h hh
     refine ⟨a.sz + j, by omega, by simp only [K.sz]; omega, ?_, by rw [leafK_right]; exact f4, f5⟩
     rw [List.getElem?_append_right (by omega), hl0, Nat.add_sub_cancel_left]; exact f3
   ·cases h
  ·cases h

end Go.Proofs.YthnfghmjipikhaaGreatDoor.Ev
