/- Evaluating operations that change no memory (4): cuts, lengths, structs that are put together. -/
import Derived.Test.YtlgbhpphfimdbaaEv8
namespace Go.Proofs.Ytlgbhpphfimdbaa.Ev
set_option linter.unusedVariables false
set_option linter.unusedSimpArgs false

def optI (s : St) : Option Operand → Option (Option (IntKind × Int) × Rds)
  | none => some (none, [])
  | some x => match opnd s x with
    | some (.one (.int k i), rds) => some (some (k, i), rds)
    | _ => none

theorem optI_ok {s s' : St} {x : Option Operand} {v : Option (IntKind × Int)} {rds : Rds} (h : optI s x = some (v, rds)) :
    Reads s rds ∧ ∀ {n : Nat} {w0 : World} {φ0 : Gh} {a : Act} {m : Mem}, Rel n w0 φ0 s' a m → Reads s' rds → x.map a.eval = v.map fun p => Value.int p.1 p.2 := by
  cases x with
  | none => simp only [optI] at h; injection h with h; injection h with h1 h2; subst h1; subst h2; exact ⟨Reads.nil _, fun _ _ => rfl⟩
  | some x =>
    simp only [optI] at h
    split at h
    · rename_i k i rds' e
      injection h with h; injection h with h1 h2; subst h1; subst h2
      refine ⟨opnd_reads e, fun hr hrd => ?_⟩
      have : _ = Value.int k i := opnd_ok e hr hrd
      simp [this]
    · cases h

def cutS {R : Type} (n : Nat) (lo hi : Option (IntKind × Int)) (κ : Nat → Nat → Option R) : Option R :=
  match lo, hi with
  | none, none => κ 0 n
  | some (_, l), none => bif decide (0 ≤ l) then bif decide (l ≤ (n : Int)) then κ l.toNat n else none else none
  | none, some (_, h) => bif decide (0 ≤ h) then bif decide (h ≤ (n : Int)) then κ 0 h.toNat else none else none
  | some (_, l), some (_, h) => bif decide (0 ≤ l) then bif decide (l ≤ h) then bif decide (h ≤ (n : Int)) then κ l.toNat h.toNat else none else none else none

theorem cutS_ok {R : Type} {n : Nat} {lo hi : Option (IntKind × Int)} {κ : Nat → Nat → Option R} {r : R} (h : cutS n lo hi κ = some r) :
    ∃ l g, κ l g = some r ∧ l ≤ g ∧ g ≤ n ∧ ∀ (P : Program) (w : World) (b : Bool) (c : Nat), n ≤ c →
      (Instr.sliceBounds b n c (lo.map fun p => Value.int p.1 p.2) (hi.map fun p => Value.int p.1 p.2) none).run P w = .ok (l, g, c) w := by
  unfold cutS at h
  split at h
  · exact ⟨0, n, h, Nat.zero_le _, Nat.le_refl _, fun P w b c hc => by simp [Instr.sliceBounds]⟩
  · rename_i k l
    obtain ⟨h0, h⟩ := bif_some h
    obtain ⟨h1, h⟩ := bif_some h
    have h0 := of_decide_eq_true h0
    have h1 := of_decide_eq_true h1
    exact ⟨_, _, h, by omega, Nat.le_refl _, fun P w b c hc => by
      simp [Instr.sliceBounds, run_sliceBound, h0, h1]⟩
  · rename_i k g
    obtain ⟨h0, h⟩ := bif_some h
    obtain ⟨h1, h⟩ := bif_some h
    have h0 := of_decide_eq_true h0
    have h1 := of_decide_eq_true h1
    exact ⟨_, _, h, Nat.zero_le _, by omega, fun P w b c hc => by
      have h2 : g ≤ (c : Int) := by omega
      cases b <;> simp [Instr.sliceBounds, run_sliceBound, h0, h2]⟩
  · rename_i k l k' g
    obtain ⟨h0, h⟩ := bif_some h
    obtain ⟨h1, h⟩ := bif_some h
    obtain ⟨h2, h⟩ := bif_some h
    have h0 := of_decide_eq_true h0
    have h1 := of_decide_eq_true h1
    have h2 := of_decide_eq_true h2
    exact ⟨_, _, h, by omega, by omega, fun P w b c hc => by
      have h3 : g ≤ (c : Int) := by omega
      have h4 : (0 : Int) ≤ g := by omega
      have h5 : (g.toNat : Int) = g := Int.toNat_of_nonneg h4
      cases b <;> simp [Instr.sliceBounds, run_sliceBound, h0, h1, h3, h4, h5]⟩

theorem run_cut {P : Program} {cfg : Cfg} (hc : CfgOk P cfg) {t e : Nat} {ti : TyI} (het : cfg.el t = some e) (het' : cfg.ty e = some ti) {a : Option Addr} {n c l g : Nat} {lo hi : Option Value} {w : World}
    (hb : (Instr.sliceBounds true n c lo hi none).run P w = .ok (l, g, c) w) : (Instr.sliceAt t (.slice a n c) lo hi none).run P w = .ok (cutV ti.k.sz l g (.slice a n c)) w := by
  obtain ⟨f, z, hi, hs, _⟩ := hc.info het'
  have hu := hc.el het
  simp [Instr.sliceAt, Instr.slice, Sem.run_bind, run_und hu, hb, run_size hi, hs, cutV]

def pSlice {R : Type} (cfg : Cfg) (s : St) (t : Nat) (x : Operand) (lo hi mx : Option Operand) (κ : Kp R) : Option R :=
  match mx, opnd s x, optI s lo, optI s hi with
  | none, some (.one l, rx), some (lo', rl), some (hi', rh) => match l with
    | .str b => match isStrT cfg t with
      | true => cutS b.size lo' hi' fun l g => κ (rx ++ (rl ++ rh)) [] (.one (.str (b.extract l g)))
      | false => none
    | l => match cfg.el t with
      | some e => match cfg.ty e with
        | some ti => match l with
          | .ro e' k xs => match Nat.beq ti.k.sz k.sz with
            | true => cutS xs.length lo' hi' fun l g => κ (rx ++ (rl ++ rh)) [] (.one (.ro e' k ((xs.take g).drop l)))
            | false => none
          | .own id => match s.getR id with
            | some r => match Nat.beq ti.k.sz r.k.sz with
              | true => cutS r.xs.length lo' hi' fun l g => κ (rx ++ (rl ++ rh) ++ [(.r id, .r r)]) [] (.one (.vw id l g))
              | false => none
            | none => none
          | _ => none
        | none => none
      | none => none
  | _, _, _, _ => none

theorem pSlice_ok {R : Type} {P : Program} {cfg : Cfg} (hc : CfgOk P cfg) {s : St} {t : Nat} {x : Operand} {lo hi mx : Option Operand} {κ : Kp R} {r : R} (h : pSlice cfg s t x lo hi mx κ = some r) :
    OutP P s (.slice t x lo hi mx) κ r := by
  unfold pSlice at h
  split at h
  · rename_i l rx lo' rl hi' rh ex el eh
    have hrun : ∀ (a : Act) (w : World) (oo : Oper) (y : Value), oo.op = .slice t x lo hi none → (Instr.sliceAt t (a.eval x) (lo.map a.eval) (hi.map a.eval) none).run P w = .ok y w → (execOp a.eval oo).run P w = .ok (.value y) w := by
      intro a w oo y ho hy
      simp [execOp, ho, Sem.run_bind, hy]
    split at h
    · rename_i b
      split at h
      · rename_i et
        obtain ⟨l', g, hκ, h1, h2, hb⟩ := cutS_ok h
        refine .mk' _ _ hκ (Reads.app.2 ⟨opnd_reads ex, Reads.app.2 ⟨(optI_ok (s' := s) el).1, (optI_ok (s' := s) eh).1⟩⟩) fun n0 w0 φ0 s' a m oo ho hr hrd => ⟨_, hrun a m.w oo _ ho ?_, rfl⟩
        have hx : a.eval x = .string b := opnd_ok ex hr (Reads.app.1 hrd).1
        have hrd2 := Reads.app.1 (Reads.app.1 hrd).2
        rw [hx, (optI_ok el).2 hr hrd2.1, (optI_ok eh).2 hr hrd2.2]
        simp [Instr.sliceAt, Instr.slice, Sem.run_bind, run_und (isStrT_ok hc et), hb P m.w false b.size (Nat.le_refl _)]
      · cases h
    · split at h
      · rename_i e et
        split at h
        · rename_i ti eti
          split at h
          · rename_i e' k xs _
            split at h
            · rename_i hsz
              have hsz := Nat.eq_of_beq_eq_true hsz
              obtain ⟨l', g, hκ, h1, h2, hb⟩ := cutS_ok h
              refine .mk' _ _ hκ (Reads.app.2 ⟨opnd_reads ex, Reads.app.2 ⟨(optI_ok (s' := s) el).1, (optI_ok (s' := s) eh).1⟩⟩) fun n0 w0 φ0 s' a m oo ho hr hrd => ?_
              have hx : Ro (.rs e' k) m.w m.φ xs [a.eval x] := opnd_ok ex hr (Reads.app.1 hrd).1
              have hrd2 := Reads.app.1 (Reads.app.1 hrd).2
              refine ⟨cutV k.sz l' g (a.eval x), hrun a m.w oo _ ho ?_, ro_cut hx h1 h2⟩
              obtain ⟨A, c, e1, hl, _⟩ := hx
              injection e1 with e1 _
              rw [e1, (optI_ok el).2 hr hrd2.1, (optI_ok eh).2 hr hrd2.2, ← hsz]
              exact run_cut hc et eti (hb P m.w true c hl)
            · cases h
          · rename_i id _
            split at h
            · rename_i row er
              split at h
              · rename_i hsz
                have hsz := Nat.eq_of_beq_eq_true hsz
                obtain ⟨l', g, hκ, h1, h2, hb⟩ := cutS_ok h
                refine .mk' _ _ hκ (Reads.app.2 ⟨Reads.app.2 ⟨opnd_reads ex, Reads.app.2 ⟨(optI_ok (s' := s) el).1, (optI_ok (s' := s) eh).1⟩⟩, fun p hp => by rw [List.mem_singleton.1 hp]; exact St.getR_some.1 er⟩) fun n0 w0 φ0 s' a m oo ho hr hrd => ?_
                have hrd1 := (Reads.app.1 hrd).1
                have hrow := (Reads.app.1 hrd).2 (.r id, .r row) (by simp)
                have hx := (opnd_ok ex hr (Reads.app.1 hrd1).1).2 row hrow
                have hrd2 := Reads.app.1 (Reads.app.1 hrd1).2
                refine ⟨cutV row.k.sz l' g (m.ρ id), hrun a m.w oo _ ho ?_, ?_, fun r' hr' => ?_⟩
                · have hro := (hr.rw id row hrow).no
                  obtain ⟨A, c, e1, hl, _⟩ := hro
                  injection e1 with e1 _
                  rw [hx, e1, (optI_ok el).2 hr hrd2.1, (optI_ok eh).2 hr hrd2.2, ← hsz]
                  exact run_cut hc et eti (hb P m.w true c hl)
                · have hro := (hr.rw id row hrow).no
                  obtain ⟨A, c, e1, hl, _⟩ := hro
                  injection e1 with e1 _
                  rw [e1]; rfl
                · rw [hrow] at hr'
                  injection hr' with hr'; injection hr' with hr'; subst hr'
                  exact ⟨h1, h2, rfl⟩
              · cases h
            · cases h
          · cases h
        · cases h
      · cases h
  · cases h

/-- A length: of a text, or of what a slice holds. -/
def pLen {R : Type} (cfg : Cfg) (s : St) (t : Nat) (x : Operand) (κ : Kp R) : Option R :=
  match opnd s x with
  | some (.one (.str b), rx) => match isStrT cfg t with
    | true => κ rx [] (.one (.int .i64 (b.size : Int)))
    | false => none
  | some (.one l, rx) => match cfg.el t with
    | some _ => match content cfg s t l with
      | some (sl, rl) => κ (rx ++ rl) [] (.one (.int .i64 (sl.xs.length : Int)))
      | none => none
    | none => none
  | _ => none

theorem pLen_ok {R : Type} {P : Program} {cfg : Cfg} (hc : CfgOk P cfg) {s : St} {t : Nat} {x : Operand} {κ : Kp R} {r : R} (h : pLen cfg s t x κ = some r) :
    OutP P s (.call { callee := .builtin .len, args := #[x], argTypes := #[t] }) κ r := by
  unfold pLen at h
  split at h
  · rename_i b rx ex
    split at h
    · rename_i et
      refine .mk' _ _ h (opnd_reads ex) fun n0 w0 φ0 s' a m oo ho hr hrd => ⟨_, ?_, rfl⟩
      have hx : a.eval x = .string b := opnd_ok ex hr hrd
      simp [execOp, ho, hx, resolve, invoke, builtin, Builtin.len_, Sem.run_bind, run_und (isStrT_ok hc et), goInt]
    · cases h
  · rename_i l rx _ ex
    split at h
    · rename_i e et
      split at h
      · rename_i sl rl ec
        refine .mk' _ _ h (Reads.app.2 ⟨opnd_reads ex, content_reads ec⟩) fun n0 w0 φ0 s' a m oo ho hr hrd => ⟨_, ?_, rfl⟩
        have hro := content_ok ec hr (Reads.app.1 hrd).2 (opnd_ok ex hr (Reads.app.1 hrd).1)
        obtain ⟨A, c, e1, hl, _⟩ := hro
        injection e1 with e1 _
        simp [execOp, ho, e1, resolve, invoke, builtin, Builtin.len_, Sem.run_bind, run_und (hc.el et), goInt]
      · cases h
    · cases h
  · cases h

end Go.Proofs.Ytlgbhpphfimdbaa.Ev
