/- Evaluating operations that change no memory (2): structs' parts, addresses, reads, cuts. -/
import Derived.Test.YtlgbhpphfimdbaaEv6
namespace Go.Proofs.Ytlgbhpphfimdbaa.Ev
set_option linter.unusedVariables false
set_option linter.unusedSimpArgs false

def partAV (agg : Bool) (ls : List Lf) : Option AV :=
  match agg with
  | true => some (.agg ls)
  | false => match ls with
    | [l] => some (.one l)
    | _ => none

theorem partAV_ok {agg : Bool} {ls : List Lf} {v : AV} (h : partAV agg ls = some v) {s : St} {m : Mem} {cs : List Value} (hc : All2 (LfC s m) ls cs) :
    (agg = true → AVC s m v (.agg cs.toArray)) ∧ (agg = false → ∃ c, cs = [c] ∧ AVC s m v c) := by
  unfold partAV at h
  split at h
  · injection h with h; subst h
    exact ⟨fun _ => ⟨cs, rfl, hc⟩, fun h => nomatch h⟩
  · split at h
    · injection h with h; subst h
      refine ⟨fun h => (nomatch h), fun _ => ?_⟩
      match cs, hc with
      | [c], hc => exact ⟨c, rfl, hc.1⟩
    · cases h

theorem run_isAgg {P : Program} {t : Nat} {d : TypeDesc} (h : P.underlying t = some d) (w : World) : (isAgg t).run P w = .ok (isAggD d) w := by
  unfold isAgg
  rw [Sem.run_bind, run_underlying h w]
  cases d <;> rfl

theorem run_size {P : Program} {t : Nat} {i : TypeInfo} (h : P.info? t = some i) (w : World) : (sizeOf t).run P w = .ok i.size w := by
  simp [sizeOf, typeInfo, h]

theorem extract_toList (cs : List Value) (a b : Nat) : cs.toArray.extract a b = ((cs.drop a).take (b - a)).toArray := by
  apply Array.ext'
  simp [List.extract_eq_take_drop]

theorem run_part {P : Program} {fd : Field} {f : Nat × Nat × Bool} (hf : FldOk P fd f) {cs : List Value} {v : AV} {s : St} {m : Mem} {ls : List Lf}
    (hp : partAV f.2.2 ((ls.drop f.1).take f.2.1) = some v) (hc : All2 (LfC s m) ls cs) : ∃ x, (part fd.type cs.toArray fd.offset).run P m.w = .ok x m.w ∧ AVC s m v x := by
  obtain ⟨h1, h2⟩ := partAV_ok hp ((hc.drop f.1).take f.2.1)
  obtain ⟨d, hd, hagg⟩ := hf.agg
  obtain ⟨i, hi, hs⟩ := hf.info
  unfold part
  cases hf2 : f.2.2 with
  | true =>
    refine ⟨_, ?_, h1 hf2⟩
    simp [Sem.run_bind, run_isAgg hd, hagg, hf2, run_size hi, hs, hf.off, extract_toList]
  | false =>
    obtain ⟨c, hc1, hv⟩ := h2 hf2
    refine ⟨c, ?_, hv⟩
    have hcell : cs[f.1]? = some c := by
      have : ((cs.drop f.1).take f.2.1)[0]? = some c := by rw [hc1]; rfl
      rw [List.getElem?_take_of_lt hf.pos, List.getElem?_drop] at this
      simpa using this
    simp [Sem.run_bind, run_isAgg hd, hagg, hf2, hf.off, hcell]

def pField {R : Type} (cfg : Cfg) (s : St) (t : Nat) (x : Operand) (f : Nat) (κ : Kp R) : Option R :=
  match opnd s x, cfg.ty t with
  | some (.agg ls, rx), some ⟨true, _, _, fl⟩ => match fl[f]? with
    | some (o, n, b) => match partAV b ((ls.drop o).take n) with
      | some v => κ rx [] v
      | none => none
    | none => none
  | _, _ => none

theorem pField_ok {R : Type} {P : Program} {cfg : Cfg} (hc : CfgOk P cfg) {s : St} {t : Nat} {x : Operand} {f : Nat} {κ : Kp R} {r : R} (h : pField cfg s t x f κ = some r) : OutP P s (.field t x f) κ r := by
  unfold pField at h
  split at h
  · rename_i ls rx k by_ fl ex et
    split at h
    · rename_i o n b ef
      split at h
      · rename_i v ev
        refine .mk' rx v h (opnd_reads ex) fun n0 w0 φ0 s' a m oo ho hr hrd => ?_
        obtain ⟨cs, hx, hcs⟩ := opnd_ok ex hr hrd
        obtain ⟨fs, hu, _, hfs⟩ := hc.st et rfl
        obtain ⟨fd, hfd, hok⟩ := hfs f _ ef
        obtain ⟨y, hrun, hv⟩ := run_part hok ev hcs
        refine ⟨y, ?_, hv⟩
        simp [execOp, ho, hx, Instr.field, Sem.run_bind, run_und hu, hfd, asAgg, hrun]
      · cases h
    · cases h
  · cases h

def pExtract {R : Type} (s : St) (x : Operand) (i : Nat) (κ : Kp R) : Option R :=
  match opnd s x with
  | some (.tup ps, rx) => match ps[i]? with
    | some (b, ls) => match partAV b ls with
      | some v => κ rx [] v
      | none => none
    | none => none
  | _ => none

theorem pExtract_ok {R : Type} {P : Program} {s : St} {x : Operand} {i : Nat} {κ : Kp R} {r : R} (h : pExtract s x i κ = some r) : OutP P s (.extract x i) κ r := by
  unfold pExtract at h
  split at h
  · rename_i ps rx ex
    split at h
    · rename_i b ls ep
      split at h
      · rename_i v ev
        refine .mk' rx v h (opnd_reads ex) fun n0 w0 φ0 s' a m oo ho hr hrd => ?_
        obtain ⟨vs, hx, hvs⟩ := opnd_ok ex hr hrd
        obtain ⟨y, hy, hpc⟩ := hvs.get ep
        refine ⟨y, ?_, ?_⟩
        · simp [execOp, ho, hx, Instr.extract, hy]
        · cases b with
          | true =>
            obtain ⟨cs, rfl, hcs⟩ := hpc
            exact (partAV_ok ev hcs).1 rfl
          | false =>
            obtain ⟨l, rfl, hl⟩ := hpc
            simp only [partAV] at ev
            injection ev with ev; subst ev; exact hl
      · cases h
    · cases h
  · cases h

theorem add_add (ad : Addr) (h : ad.spot = none) (a b : Nat) : (ad.add a).add b = ad.add (a + b) := by
  obtain ⟨ab, ao, asp⟩ := ad
  simp only at h; subst h
  simp only [add_plain]
  rw [Nat.add_assoc]

def pFieldAddr {R : Type} (cfg : Cfg) (s : St) (t : Nat) (x : Operand) (f : Nat) (κ : Kp R) : Option R :=
  match opnd s x, cfg.ty t with
  | some (.one l, rx), some ⟨true, _, _, fl⟩ => match fl[f]? with
    | some (o, _, _) => match l with
      | .ptr b off => match s.getB b with
        | some c => κ (rx ++ [(.b b, .b c)]) [] (.one (.ptr b (off + o)))
        | none => none
      | .ept id q off => match s.getR id, s.getX q with
        | some r, some i => κ (rx ++ [(.r id, .r r), (.x q, .x i)]) [] (.one (.ept id q (off + o)))
        | _, _ => none
      | .rpt k y off => κ rx [] (.one (.rpt k y (off + o)))
      | _ => none
    | none => none
  | _, _ => none

theorem row_spot {k : K} {e : Nat} {w : World} {φ : Col} {p : Path} {xs : List k.T} {v : Value} (h : OwL (Ow k w φ) e k.sz w φ p xs v) : (rowAddr v).spot = none := by
  obtain ⟨inner, ho, _⟩ := h
  rcases ho.2 with ⟨rfl, _⟩ | ⟨g, cap, cur, fz, rfl, _⟩ <;> rfl

theorem pFieldAddr_ok {R : Type} {P : Program} {cfg : Cfg} (hc : CfgOk P cfg) {s : St} {t : Nat} {x : Operand} {f : Nat} {κ : Kp R} {r : R} (h : pFieldAddr cfg s t x f κ = some r) : OutP P s (.fieldAddr t x f) κ r := by
  unfold pFieldAddr at h
  split at h
  · rename_i l rx k by_ fl ex et
    split at h
    · rename_i o n b ef
      have hplace : ∀ (w : World) (ad : Addr), ∃ fs, P.underlying t = some (.struct fs) ∧ ∃ fd, fs[f]? = some fd ∧ (fieldPlace ad fd).run P w = .ok (ad.add o) w := by
        intro w ad
        obtain ⟨fs, hu, _, hfs⟩ := hc.st et rfl
        obtain ⟨fd, hfd, hok⟩ := hfs f _ ef
        refine ⟨fs, hu, fd, hfd, ?_⟩
        obtain ⟨i, hi, hs⟩ := hok.info
        have hpos := hok.pos
        have hne : i.size ≠ 0 := by rw [hs]; omega
        have hoff : fd.offset = o := hok.off
        simp [fieldPlace, Sem.run_bind, run_size hi, hne, hoff]
      have hrun : ∀ (a : Act) (w : World) (oo : Oper) (ad : Addr), oo.op = .fieldAddr t x f → a.eval x = .pointer (some ad) → (execOp a.eval oo).run P w = .ok (.value (.pointer (some (ad.add o)))) w := by
        intro a w oo ad ho hx
        obtain ⟨fs, hu, fd, hfd, hp⟩ := hplace w ad
        simp [execOp, ho, hx, Instr.fieldAt, Sem.run_bind, run_und hu, hfd, Instr.sureAddr, hp]
      split at h
      · rename_i b' off
        split at h
        · rename_i c ec
          refine .mk' _ _ h (Reads.app.2 ⟨opnd_reads ex, fun p hp => by rw [List.mem_singleton.1 hp]; exact St.getB_some.1 ec⟩) fun n0 w0 φ0 s' a m oo ho hr hrd => ?_
          have hx := (opnd_ok ex hr (Reads.app.1 hrd).1).2 c ((Reads.app.1 hrd).2 _ List.mem_cons_self)
          refine ⟨_, hrun a m.w oo _ ho hx, rfl, fun c' hc' => ?_⟩
          rw [add_plain, Nat.add_assoc]
        · cases h
      · rename_i id q off
        split at h
        · rename_i row i er ei
          refine .mk' _ _ h (Reads.app.2 ⟨opnd_reads ex, fun p hp => ?_⟩) fun n0 w0 φ0 s' a m oo ho hr hrd => ?_
          · simp only [List.mem_cons, List.not_mem_nil, or_false] at hp
            rcases hp with rfl | rfl
            · exact St.getR_some.1 er
            · exact St.getX_some.1 ei
          · have h1 := (Reads.app.1 hrd).2 (.r id, .r row) (by simp)
            have h2 := (Reads.app.1 hrd).2 (.x q, .x i) (by simp)
            obtain ⟨hx1, hx2, hx⟩ := (opnd_ok ex hr (Reads.app.1 hrd).1).2 row i h1 h2
            refine ⟨_, hrun a m.w oo _ ho hx, rfl, fun r' i' hr' hi' => ?_⟩
            rw [h1] at hr'; rw [h2] at hi'
            injection hr' with hr'; injection hr' with hr'; subst hr'
            injection hi' with hi'; injection hi' with hi'; subst hi'
            refine ⟨hx1, hx2, ?_⟩
            rw [add_add _ (row_spot (hr.rw id row h1)), Nat.add_assoc]
        · cases h
      · rename_i k' y off
        refine .mk' _ _ h (opnd_reads ex) fun n0 w0 φ0 s' a m oo ho hr hrd => ?_
        obtain ⟨ad, ds, hro, hφ, hcell, hx⟩ := opnd_ok ex hr hrd
        refine ⟨_, hrun a m.w oo _ ho hx, ad, ds, hro, hφ, hcell, ?_⟩
        have hsp : ad.spot = none := by
          have h0 : 0 < ds.length := by rw [hro.len]; exact k'.sz_pos
          have := cell_spot (hcell 0 ds[0] (by simp [h0]))
          simpa [Addr.add] using this
        rw [add_add _ hsp]
      · cases h
    · cases h
  · cases h

def pNil {R : Type} (s : St) (x : Operand) (κ : Kp R) : Option R :=
  match opnd s x with
  | some (.one l, rx) => match l with
    | .ptr b off => match s.getB b with
      | some c => κ (rx ++ [(.b b, .b c)]) [] (.one (.ptr b off))
      | none => none
    | .ept id q off => match s.getR id, s.getX q with
      | some r, some i => κ (rx ++ [(.r id, .r r), (.x q, .x i)]) [] (.one (.ept id q off))
      | _, _ => none
    | .rpt k y off => κ rx [] (.one (.rpt k y off))
    | _ => none
  | _ => none

theorem pNil_ok {R : Type} {P : Program} {s : St} {x : Operand} {κ : Kp R} {r : R} (h : pNil s x κ = some r) : OutP P s (.nilCheck x) κ r := by
  unfold pNil at h
  have hrun : ∀ (a : Act) (w : World) (oo : Oper) (ad : Addr), oo.op = .nilCheck x → a.eval x = .pointer (some ad) → (execOp a.eval oo).run P w = .ok (.value (.pointer (some ad))) w := by
    intro a w oo ad ho hx
    simp [execOp, ho, hx]
  split at h
  · rename_i l rx ex
    split at h
    · rename_i b' off
      split at h
      · rename_i c ec
        refine .mk' _ _ h (Reads.app.2 ⟨opnd_reads ex, fun p hp => by rw [List.mem_singleton.1 hp]; exact St.getB_some.1 ec⟩) fun n0 w0 φ0 s' a m oo ho hr hrd => ?_
        have hx0 := opnd_ok ex hr (Reads.app.1 hrd).1
        have hx := hx0.2 c ((Reads.app.1 hrd).2 _ List.mem_cons_self)
        exact ⟨_, hrun a m.w oo _ ho hx, hx ▸ hx0⟩
      · cases h
    · rename_i id q off
      split at h
      · rename_i row i er ei
        refine .mk' _ _ h (Reads.app.2 ⟨opnd_reads ex, fun p hp => ?_⟩) fun n0 w0 φ0 s' a m oo ho hr hrd => ?_
        · simp only [List.mem_cons, List.not_mem_nil, or_false] at hp
          rcases hp with rfl | rfl
          · exact St.getR_some.1 er
          · exact St.getX_some.1 ei
        · have h1 := (Reads.app.1 hrd).2 (.r id, .r row) (by simp)
          have h2 := (Reads.app.1 hrd).2 (.x q, .x i) (by simp)
          have hx0 := opnd_ok ex hr (Reads.app.1 hrd).1
          obtain ⟨hx1, hx2, hx⟩ := hx0.2 row i h1 h2
          exact ⟨_, hrun a m.w oo _ ho hx, hx ▸ hx0⟩
      · cases h
    · rename_i k' y off
      refine .mk' _ _ h (opnd_reads ex) fun n0 w0 φ0 s' a m oo ho hr hrd => ?_
      have hx0 := opnd_ok ex hr hrd
      have hx0' := hx0
      obtain ⟨ad, ds, hro, hφ, hcell, hx⟩ := hx0
      exact ⟨_, hrun a m.w oo _ ho hx, hx ▸ hx0'⟩
    · cases h
  · cases h

end Go.Proofs.Ytlgbhpphfimdbaa.Ev
