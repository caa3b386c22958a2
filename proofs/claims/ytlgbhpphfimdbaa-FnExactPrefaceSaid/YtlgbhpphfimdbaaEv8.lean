/- Evaluating operations that change no memory (3): loads, elements, cuts, lengths. -/
import Derived.Test.YtlgbhpphfimdbaaEv7
namespace Go.Proofs.Ytlgbhpphfimdbaa.Ev
set_option linter.unusedVariables false
set_option linter.unusedSimpArgs false

/-- An element's cells; mk tells its slices by their places. -/
def leaves : (k : K) → k.T → (Nat → Lf) → Nat → List Lf
  | .int κ, n, _, _ => [.int κ n]
  | .bool, b, _, _ => [.bool b]
  | .str, s, _, _ => [.str s]
  | .sl _ _, _, mk, j => [mk j]
  | .rs e k, xs, _, _ => [.ro e k xs]
  | .pair a b, x, mk, j => leaves a x.1 mk j ++ leaves b x.2 mk (j + a.sz)
def leavesRo : (k : K) → k.T → List Lf
  | .int κ, n => [.int κ n]
  | .bool, b => [.bool b]
  | .str, s => [.str s]
  | .sl e k, xs => [.ro e k xs]
  | .rs e k, xs => [.ro e k xs]
  | .pair a b, x => leavesRo a x.1 ++ leavesRo b x.2

theorem leaves_ok : ∀ {k : K} {s : St} {m : Mem} {p : Path} {x : k.T} {cs : List Value} {mk : Nat → Lf} {j : Nat}, Ow k m.w m.φ p x cs →
    (∀ i v, cs[i]? = some v → LfC s m (mk (j + i)) v) → All2 (LfC s m) (leaves k x mk j) cs
  | .int _, _, _, _, _, _, _, _, h, _ => by simp only [Ow] at h; subst h; exact ⟨rfl, trivial⟩
  | .bool, _, _, _, _, _, _, _, h, _ => by simp only [Ow] at h; subst h; exact ⟨rfl, trivial⟩
  | .str, _, _, _, _, _, _, _, h, _ => by simp only [Ow] at h; subst h; exact ⟨rfl, trivial⟩
  | .sl _ _, _, _, _, _, _, _, _, h, hm => by obtain ⟨v, rfl, _⟩ := h; exact ⟨hm 0 v rfl, trivial⟩
  | .rs _ _, _, _, _, _, _, _, _, h, hm => by
    have h' := h
    obtain ⟨A, c, rfl, _⟩ := h
    exact ⟨h', trivial⟩
  | .pair a b, s, m, p, x, cs, mk, j, h, hm => by
    obtain ⟨c0, c1, rfl, h0, h1⟩ := h
    refine All2.app (leaves_ok h0 fun i v hv => ?_) (leaves_ok h1 fun i v hv => ?_)
    · refine hm i v ?_
      rw [List.getElem?_append_left (List.getElem?_eq_some_iff.1 hv).1]; exact hv
    · have := hm (c0.length + i) v (by rw [List.getElem?_append_right (by omega)]; simpa using hv)
      rw [h0.len] at this
      rw [Nat.add_assoc]; exact this

theorem leavesRo_ok : ∀ {k : K} {s : St} {m : Mem} {x : k.T} {cs : List Value}, Ro k m.w m.φ x cs → All2 (LfC s m) (leavesRo k x) cs
  | .int _, _, _, _, _, h => by simp only [Ro] at h; subst h; exact ⟨rfl, trivial⟩
  | .bool, _, _, _, _, h => by simp only [Ro] at h; subst h; exact ⟨rfl, trivial⟩
  | .str, _, _, _, _, h => by simp only [Ro] at h; subst h; exact ⟨rfl, trivial⟩
  | .sl _ _, _, _, _, _, h => by
    have h' := h
    obtain ⟨A, c, rfl, _⟩ := h
    exact ⟨h', trivial⟩
  | .rs _ _, _, _, _, _, h => by
    have h' := h
    obtain ⟨A, c, rfl, _⟩ := h
    exact ⟨h', trivial⟩
  | .pair a b, s, m, x, cs, h => by
    obtain ⟨c0, c1, rfl, h0, h1⟩ := h
    exact All2.app (leavesRo_ok h0) (leavesRo_ok h1)

theorem run_loadVar {P : Program} {cfg : Cfg} (hc : CfgOk P cfg) {t : Nat} {ti : TyI} (ht : cfg.ty t = some ti) {s : St} {m : Mem} {ls : List Lf} {ds : List Value} {v : AV} {ad : Addr}
    (hp : partAV ti.agg ls = some v) (hl : ls.length = ti.k.sz) (hd : All2 (LfC s m) ls ds) (hcell : ∀ j u, ds[j]? = some u → m.w.cell? (ad.add j) = some u) :
    ∃ x, (loadVar t ad).run P m.w = .ok x m.w ∧ AVC s m v x := by
  obtain ⟨f, z, hi, hs, _⟩ := hc.info ht
  obtain ⟨d, hu, hagg⟩ := hc.agg ht
  have hlen : ds.length = ti.k.sz := by rw [← hl, hd.len]
  obtain ⟨h1, h2⟩ := partAV_ok hp hd
  cases ha : ti.agg with
  | true =>
    refine ⟨_, ?_, h1 ha⟩
    have hld := run_loadCells_list (P := P) m.w ad ds hcell
    rw [hlen] at hld
    simp [loadVar, Sem.run_bind, run_isAgg hu, hagg, ha, run_size hi, hs, hld]
  | false =>
    obtain ⟨c, rfl, hv⟩ := h2 ha
    refine ⟨c, ?_, hv⟩
    have := hcell 0 c rfl
    simp only [Addr.add, if_true] at this
    simp [loadVar, Sem.run_bind, run_isAgg hu, hagg, ha, this]

def pLoad {R : Type} (cfg : Cfg) (s : St) (t : Nat) (x : Operand) (κ : Kp R) : Option R :=
  match opnd s x, cfg.ty t with
  | some (.one l, rx), some ti => match l with
    | .ptr b off => match s.getB b with
      | some c => match Nat.beq ((c.drop off).take ti.k.sz).length ti.k.sz, partAV ti.agg ((c.drop off).take ti.k.sz) with
        | true, some v => κ (rx ++ [(.b b, .b c)]) [] v
        | _, _ => none
      | none => none
    | .ept id q off => match s.getR id, s.getX q with
      | some r, some i => match Nat.beq (((leaves r.k (rd r.k r.xs i) (fun j => .sub id q j r.ver) 0).drop off).take ti.k.sz).length ti.k.sz, partAV ti.agg (((leaves r.k (rd r.k r.xs i) (fun j => .sub id q j r.ver) 0).drop off).take ti.k.sz) with
        | true, some v => κ (rx ++ [(.r id, .r r), (.x q, .x i)]) [] v
        | _, _ => none
      | _, _ => none
    | .rpt k y off => match Nat.beq (((leavesRo k y).drop off).take ti.k.sz).length ti.k.sz, partAV ti.agg (((leavesRo k y).drop off).take ti.k.sz) with
      | true, some v => κ rx [] v
      | _, _ => none
    | _ => none
  | _, _ => none

theorem ow_elem {k : K} {e : Nat} {w : World} {φ : Col} {p : Path} {xs : List k.T} {v : Value} (h : OwL (Ow k w φ) e k.sz w φ p xs v) {i : Nat} (hi : i < xs.length) :
    ∃ (g cap : Nat) (ds : List Value), v = .slice (some ⟨g, 0, none⟩) xs.length cap ∧ φ g = some p ∧ Ow k w φ (p ++ [i]) xs[i] ds ∧ ∀ j u, ds[j]? = some u → w.cell? ⟨g, i * k.sz + j, none⟩ = some u := by
  obtain ⟨inner, ho, hc, hh⟩ := h
  rcases ho.2 with ⟨rfl, hn⟩ | ⟨g, cap, cur, fz, rfl, _, hg, hfz, hn, hcap, hs, ht⟩
  · omega
  · refine ⟨g, cap, _, rfl, hc g rfl, hh i hi, fun j u hu => ?_⟩
    have hj : j < k.sz := by
      have := (List.getElem?_eq_some_iff.1 hu).1
      rw [(hh i hi).len] at this; exact this
    rw [List.getElem?_take_of_lt hj, List.getElem?_drop] at hu
    have := owns_cells ho (g := g) rfl _ _ hu
    rwa [add_plain, Nat.zero_add] at this

theorem pLoad_ok {R : Type} {P : Program} {cfg : Cfg} (hc : CfgOk P cfg) {s : St} {t : Nat} {x : Operand} {κ : Kp R} {r : R} (h : pLoad cfg s t x κ = some r) : OutP P s (.load t x) κ r := by
  unfold pLoad at h
  have hrun : ∀ (a : Act) (w : World) (oo : Oper) (ad : Addr) (y : Value), oo.op = .load t x → a.eval x = .pointer (some ad) → (loadVar t ad).run P w = .ok y w → (execOp a.eval oo).run P w = .ok (.value y) w := by
    intro a w oo ad y ho hx hy
    simp [execOp, ho, hx, Instr.loadAt, Instr.sureAddr, Sem.run_bind, hy]
  split at h
  · rename_i l rx ti ex et
    split at h
    · rename_i b' off
      split at h
      · rename_i c ec
        split at h
        · rename_i v e1 e2
          refine .mk' _ _ h (Reads.app.2 ⟨opnd_reads ex, fun p hp => by rw [List.mem_singleton.1 hp]; exact St.getB_some.1 ec⟩) fun n0 w0 φ0 s' a m oo ho hr hrd => ?_
          have hb := (Reads.app.1 hrd).2 _ List.mem_cons_self
          have hx := (opnd_ok ex hr (Reads.app.1 hrd).1).2 c hb
          obtain ⟨cs, hcs, _, _, hg⟩ := hr.bx b' c hb
          obtain ⟨y, hy, hv⟩ := run_loadVar (P := P) hc et e2 (Nat.eq_of_beq_eq_true e1) ((hcs.drop off).take ti.k.sz) (ad := ⟨(m.β b').g, (m.β b').pre.length + off, none⟩) (fun j u hu => by
            have hj := (List.getElem?_eq_some_iff.1 hu).1
            have hj' : j < ti.k.sz := by rw [List.length_take] at hj; omega
            rw [List.getElem?_take_of_lt hj', List.getElem?_drop] at hu
            rw [add_plain, cell_of_row m.w _ _ _ _ _ hg]
            have hlt := (List.getElem?_eq_some_iff.1 hu).1
            rw [List.getElem?_toArray, List.append_assoc, List.getElem?_append_right (by omega), List.getElem?_append_left (by omega)]
            rw [← hu]; congr 1; omega)
          exact ⟨y, hrun a m.w oo _ y ho hx hy, hv⟩
        · cases h
      · cases h
    · rename_i id q off
      split at h
      · rename_i row i er ei
        split at h
        · rename_i v e1 e2
          refine .mk' _ _ h (Reads.app.2 ⟨opnd_reads ex, fun p hp => ?_⟩) fun n0 w0 φ0 s' a m oo ho hr hrd => ?_
          · simp only [List.mem_cons, List.not_mem_nil, or_false] at hp
            rcases hp with rfl | rfl
            · exact St.getR_some.1 er
            · exact St.getX_some.1 ei
          · have h1 := (Reads.app.1 hrd).2 (.r id, .r row) (by simp)
            have h2 := (Reads.app.1 hrd).2 (.x q, .x i) (by simp)
            obtain ⟨hx1, hx2, hx⟩ := (opnd_ok ex hr (Reads.app.1 hrd).1).2 row i h1 h2
            obtain ⟨g, cap, ds, hv0, _, how, hcell⟩ := ow_elem (hr.rw id row h1) hx2
            have hls : All2 (LfC s' m) (leaves row.k (rd row.k row.xs i) (fun j => .sub id q j row.ver) 0) ds := by
              rw [rd_eq hx2]
              refine leaves_ok how fun j v hj => ⟨how.one v (List.mem_of_getElem? hj), fun r' i' hr' hi' => ?_⟩
              rw [h1] at hr'; rw [h2] at hi'
              injection hr' with hr'; injection hr' with hr'; subst hr'
              injection hi' with hi'; injection hi' with hi'; subst hi'
              have hjl := (List.getElem?_eq_some_iff.1 hj).1
              rw [how.len] at hjl
              refine ⟨Nat.le_refl _, fun _ => ⟨hx1, hx2, by omega, ?_⟩⟩
              rw [hv0, rowAddr_slice, add_plain, Nat.zero_add, Nat.zero_add]
              exact hcell j v hj
            rw [hv0, rowAddr_slice, add_plain, Nat.zero_add] at hx
            obtain ⟨y, hy, hv⟩ := run_loadVar (P := P) hc et e2 (Nat.eq_of_beq_eq_true e1) ((hls.drop off).take ti.k.sz) (ad := ⟨g, i.toNat * row.k.sz + off, none⟩) (fun j u hu => by
              have hj := (List.getElem?_eq_some_iff.1 hu).1
              have hj' : j < ti.k.sz := by rw [List.length_take] at hj; omega
              rw [List.getElem?_take_of_lt hj', List.getElem?_drop] at hu
              have := hcell (off + j) u hu
              rw [add_plain, Nat.add_assoc]; exact this)
            exact ⟨y, hrun a m.w oo _ y ho hx hy, hv⟩
        · cases h
      · cases h
    · rename_i k y off
      split at h
      · rename_i v e1 e2
        refine .mk' _ _ h (opnd_reads ex) fun n0 w0 φ0 s' a m oo ho hr hrd => ?_
        obtain ⟨ad, ds, hro, hφ, hcell, hx⟩ := opnd_ok ex hr hrd
        have hsp : ad.spot = none := by
          have h0 : 0 < ds.length := by rw [hro.len]; exact k.sz_pos
          have := cell_spot (hcell 0 ds[0] (by simp [h0]))
          simpa [Addr.add] using this
        obtain ⟨y, hy, hv⟩ := run_loadVar (P := P) hc et e2 (Nat.eq_of_beq_eq_true e1) (((leavesRo_ok (s := s') hro).drop off).take ti.k.sz) (ad := ad.add off) (fun j u hu => by
            have hj := (List.getElem?_eq_some_iff.1 hu).1
            have hj' : j < ti.k.sz := by rw [List.length_take] at hj; omega
            rw [List.getElem?_take_of_lt hj', List.getElem?_drop] at hu
            rw [add_add _ hsp]; exact hcell (off + j) u hu)
        exact ⟨y, hrun a m.w oo _ y ho hx hy, hv⟩
      · cases h
    · cases h
  · cases h

/-- A text's byte. -/
def bt (s : ByteArray) (i : Int) : Int := (((s.data.toList.getD i.toNat 0).toNat : Nat) : Int)

def pIndex {R : Type} (cfg : Cfg) (s : St) (t : Nat) (x i : Operand) (κ : Kp R) : Option R :=
  match opnd s x, opnd s i, isStrT cfg t with
  | some (.one (.str b), rx), some (.one (.int _ j), ri), true => bif decide (0 ≤ j) then bif decide (j < (b.size : Int)) then κ (rx ++ ri) [] (.one (.int .u8 (bt b j))) else none else none
  | _, _, _ => none

theorem bif_some {R : Type} {c : Bool} {x : Option R} {r : R} (h : (bif c then x else none) = some r) : c = true ∧ x = some r := by
  cases c with
  | true => exact ⟨rfl, h⟩
  | false => cases h

theorem pIndex_ok {R : Type} {P : Program} {cfg : Cfg} (hc : CfgOk P cfg) {s : St} {t : Nat} {x i : Operand} {κ : Kp R} {r : R} (h : pIndex cfg s t x i κ = some r) : OutP P s (.index t x i) κ r := by
  unfold pIndex at h
  split at h
  · rename_i b rx κi j ri ex ei et
    obtain ⟨h0, h⟩ := bif_some h
    obtain ⟨h1, h⟩ := bif_some h
    have h0 := of_decide_eq_true h0
    have h1 := of_decide_eq_true h1
    refine .mk' _ _ h (Reads.app.2 ⟨opnd_reads ex, opnd_reads ei⟩) fun n0 w0 φ0 s' a m oo ho hr hrd => ⟨_, ?_, rfl⟩
    have hx : a.eval x = .string b := opnd_ok ex hr (Reads.app.1 hrd).1
    have hi : a.eval i = .int κi j := opnd_ok ei hr (Reads.app.1 hrd).2
    have hlt : j.toNat < b.size := by omega
    have hlt' : j.toNat < b.data.toList.length := by rw [Array.length_toList]; exact hlt
    have hr1 : (Instr.index t (.string b) (.int κi j)).run P m.w = .ok (.int .u8 ((b[j.toNat]'hlt).toNat : Nat)) m.w := by
      simp only [Instr.index, asIntOf, Sem.run_bind, Sem.run_pure, Result.andThen_ok, run_und (isStrT_ok hc et)]
      rw [if_pos h0, getElem?_pos b j.toNat hlt]; rfl
    have hbt : bt b j = ((b[j.toNat]'hlt).toNat : Int) := by
      simp only [bt, List.getD_eq_getElem?_getD, List.getElem?_eq_getElem hlt', Option.getD_some]
      rfl
    rw [hbt]
    simp only [execOp, ho, hx, hi, Sem.run_bind, hr1, Result.andThen_ok, Sem.run_pure]
  · cases h

def pIndexAddr {R : Type} (cfg : Cfg) (s : St) (d : Nat) (t : Nat) (x i : Operand) (κ : Kp R) : Option R :=
  match opnd s x, opnd s i, cfg.el t with
  | some (.one l, rx), some (.one (.int _ j), ri), some e => match cfg.ty e with
    | some ti => match l with
      | .ro _ k xs => match Nat.beq ti.k.sz k.sz with
        | true => bif decide (0 ≤ j) then bif decide (j < (xs.length : Int)) then κ (rx ++ ri) [] (.one (.rpt k (rd k xs j) 0)) else none else none
        | false => none
      | .own id => match s.getR id with
        | some r => match Nat.beq ti.k.sz r.k.sz with
          | true => bif decide (0 ≤ j) then bif decide (j < (r.xs.length : Int)) then κ (rx ++ ri ++ [(.r id, .r r)]) [(d, j)] (.one (.ept id d 0)) else none else none
          | false => none
        | none => none
      | .vw id lo hi => match s.getR id with
        | some r => match Nat.beq ti.k.sz r.k.sz with
          | true => bif decide (0 ≤ j) then bif decide (j < (hi : Int) - (lo : Int)) then κ (rx ++ ri ++ [(.r id, .r r)]) [(d, (lo : Int) + j)] (.one (.ept id d 0)) else none else none
          | false => none
        | none => none
      | _ => none
    | none => none
  | _, _, _ => none

theorem run_indexAt {P : Program} {cfg : Cfg} (hc : CfgOk P cfg) {t e : Nat} {ti : TyI} (het : cfg.el t = some e) (het' : cfg.ty e = some ti) {κi : IntKind} {j : Int} {ad : Addr} {n c : Nat} (h0 : 0 ≤ j) (h1 : j < n) (w : World) :
    (Instr.indexAt t (.slice (some ad) n c) (.int κi j)).run P w = .ok (.pointer (some (ad.add (j.toNat * ti.k.sz)))) w := by
  obtain ⟨f, z, hi, hs, _⟩ := hc.info het'
  simp [Instr.indexAt, asIntOf, Sem.run_bind, run_und (hc.el het), h0, h1, run_size hi, hs]

theorem slice_len {w : World} {φ : Col} {e : Nat} {k : K} {xs : List k.T} {v : Value} (h : Ro (.rs e k) w φ xs [v]) (hn : 0 < xs.length) : ∃ ad c, v = .slice (some ad) xs.length c := by
  obtain ⟨c, ad, ds, e1, _⟩ := ro_elem h hn
  exact ⟨ad, c, e1⟩

theorem pIndexAddr_ok {R : Type} {P : Program} {cfg : Cfg} (hc : CfgOk P cfg) {s : St} {d t : Nat} {x i : Operand} {κ : Kp R} {r : R} (h : pIndexAddr cfg s d t x i κ = some r) : OutP P s (.indexAddr t x i) κ r := by
  unfold pIndexAddr at h
  split at h
  · rename_i l rx κi j ri e ex ei et
    split at h
    · rename_i ti eti
      have hrun : ∀ (a : Act) (w : World) (oo : Oper) (y : Value), oo.op = .indexAddr t x i → (Instr.indexAt t (a.eval x) (.int κi j)).run P w = .ok y w → a.eval i = .int κi j → (execOp a.eval oo).run P w = .ok (.value y) w := by
        intro a w oo y ho hy hi
        simp [execOp, ho, hi, Sem.run_bind, hy]
      split at h
      · rename_i e2 k xs
        split at h
        · rename_i hsz
          have hsz := Nat.eq_of_beq_eq_true hsz
          obtain ⟨h0, h⟩ := bif_some h
          obtain ⟨h1, h⟩ := bif_some h
          have h0 := of_decide_eq_true h0
          have h1 := of_decide_eq_true h1
          refine .mk' _ _ h (Reads.app.2 ⟨opnd_reads ex, opnd_reads ei⟩) fun n0 w0 φ0 s' a m oo ho hr hrd => ?_
          have hx : Ro (.rs e2 k) m.w m.φ xs [a.eval x] := opnd_ok ex hr (Reads.app.1 hrd).1
          have hi : a.eval i = .int κi j := opnd_ok ei hr (Reads.app.1 hrd).2
          have hlt : j.toNat < xs.length := by omega
          obtain ⟨c, ad, ds, e1, hφ, hro, hcell⟩ := ro_elem hx hlt
          refine ⟨.pointer (some (ad.add (j.toNat * k.sz))), hrun a m.w oo _ ho (by rw [e1, run_indexAt hc et eti h0 h1, hsz]) hi, ad.add (j.toNat * k.sz), ds, by rw [rd_eq hlt]; exact hro, by rw [add_block]; exact hφ, fun jj u hu => ?_, by simp [Addr.add]⟩
          have hsp : ad.spot = none := by
            obtain ⟨c2, ad2, ds2, e3, _, hro2, hcell2⟩ := ro_elem hx (show 0 < xs.length by omega)
            rw [e1] at e3; injection e3 with e3; injection e3 with e3; subst e3
            have h0 : 0 < ds2.length := by rw [hro2.len]; exact k.sz_pos
            have := cell_spot (hcell2 0 ds2[0] (by simp [h0]))
            simpa [Addr.add] using this
          rw [add_add _ hsp]; exact hcell jj u hu
        · cases h
      · rename_i id
        split at h
        · rename_i row er
          split at h
          · rename_i hsz
            have hsz := Nat.eq_of_beq_eq_true hsz
            obtain ⟨h0, h⟩ := bif_some h
            obtain ⟨h1, h⟩ := bif_some h
            have h0 := of_decide_eq_true h0
            have h1 := of_decide_eq_true h1
            refine ⟨_, _, _, h, Reads.app.2 ⟨Reads.app.2 ⟨opnd_reads ex, opnd_reads ei⟩, fun p hp => by rw [List.mem_singleton.1 hp]; exact St.getR_some.1 er⟩, fun n0 oo ho w0 φ0 s' a m hr hrd hnew => ?_⟩
            have hrd1 := (Reads.app.1 hrd).1
            have hrow := (Reads.app.1 hrd).2 (.r id, .r row) (by simp)
            have hx := (opnd_ok ex hr (Reads.app.1 hrd1).1).2 row hrow
            have hi : a.eval i = .int κi j := opnd_ok ei hr (Reads.app.1 hrd1).2
            have hlt : j.toNat < row.xs.length := by omega
            obtain ⟨g, cap, ds, hv0, _, how, hcell⟩ := ow_elem (hr.rw id row hrow) hlt
            rw [hv0] at hx
            refine ⟨_, hrun a m.w oo _ ho (by rw [hx, run_indexAt hc et eti h0 h1, hsz]) hi, rfl, fun r' i' hr' hi' => ?_⟩
            rw [get_xw (by simp), hrow] at hr'
            injection hr' with hr'; injection hr' with hr'; subst hr'
            rw [List.map_cons, List.cons_append, St.get_cons_same] at hi'
            injection hi' with hi'; injection hi' with hi'; subst hi'
            exact ⟨h0, hlt, by rw [hv0]; rfl⟩
          · cases h
        · cases h
      · rename_i id lo hi
        split at h
        · rename_i row er
          split at h
          · rename_i hsz
            have hsz := Nat.eq_of_beq_eq_true hsz
            obtain ⟨h0, h⟩ := bif_some h
            obtain ⟨h1, h⟩ := bif_some h
            have h0 := of_decide_eq_true h0
            have h1 := of_decide_eq_true h1
            refine ⟨_, _, _, h, Reads.app.2 ⟨Reads.app.2 ⟨opnd_reads ex, opnd_reads ei⟩, fun p hp => by rw [List.mem_singleton.1 hp]; exact St.getR_some.1 er⟩, fun n0 oo ho w0 φ0 s' a m hr hrd hnew => ?_⟩
            have hrd1 := (Reads.app.1 hrd).1
            have hrow := (Reads.app.1 hrd).2 (.r id, .r row) (by simp)
            obtain ⟨g1, g2, hx⟩ := (opnd_ok ex hr (Reads.app.1 hrd1).1).2 row hrow
            have hi : a.eval i = .int κi j := opnd_ok ei hr (Reads.app.1 hrd1).2
            have hlt : ((lo : Int) + j).toNat < row.xs.length := by omega
            obtain ⟨g, cap, ds, hv0, _, how, hcell⟩ := ow_elem (hr.rw id row hrow) hlt
            rw [hv0] at hx
            have hne : ¬ cap = lo := by
              have hro := (hr.rw id row hrow).no
              rw [hv0] at hro
              obtain ⟨A, c, e1, hl, _⟩ := hro
              injection e1 with e1 _; injection e1 with _ _ e1; subst e1; omega
            simp only [cutV, if_neg hne, Option.map_some, add_plain] at hx
            refine ⟨_, hrun a m.w oo _ ho (by rw [hx, run_indexAt hc et eti h0 (by omega), hsz]) hi, rfl, fun r' i' hr' hi' => ?_⟩
            rw [get_xw (by simp), hrow] at hr'
            injection hr' with hr'; injection hr' with hr'; subst hr'
            rw [List.map_cons, List.cons_append, St.get_cons_same] at hi'
            injection hi' with hi'; injection hi' with hi'; subst hi'
            refine ⟨by omega, hlt, ?_⟩
            rw [hv0, rowAddr_slice, add_plain, add_plain]
            congr 3
            rw [Nat.zero_add, Nat.zero_add, Nat.add_zero, ← Nat.add_mul]
            congr 1; omega
          · cases h
        · cases h
      · cases h
    · cases h
  · cases h

end Go.Proofs.Ytlgbhpphfimdbaa.Ev
