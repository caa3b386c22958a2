/- Operations that make memory: boxes, zero variables, made slices, literals. -/
import Derived.Test.YtlgbhpphfimdbaaEv11
import Derived.Great.BuildSlice
namespace Go.Proofs.Ytlgbhpphfimdbaa.Ev
set_option linter.unusedVariables false
set_option linter.unusedSimpArgs false

abbrev Ke (R : Type) := Δ → Option R

def OutE {R : Type} (P : Program) (s : St) (op : Op) (d : Nat) (κ : Ke R) (r : R) : Prop :=
  ∃ δ, κ δ = some r ∧ Reads s δ.rd ∧ ∀ n (o : Oper), o.op = op → o.dst = some d → d < n → Good P n o δ

theorem opnd_live {s s' : St} {x : Operand} {v : AV} {rds : Rds} (h : opnd s x = some (v, rds)) (hrd : Reads s' rds) : ∀ q ∈ v.men, Live s' q := by
  cases x with
  | tmp d =>
    simp only [opnd] at h
    split at h
    · rename_i u hu
      injection h with h; injection h with h1 h2; subst h1; subst h2
      exact fun q hq => ⟨.t d, .t u, hrd _ List.mem_cons_self, hq⟩
    · cases h
  | const c =>
    simp only [opnd] at h
    split at h
    · rename_i u hu
      injection h with h; injection h with h1 h2; subst h1; subst h2
      intro q hq
      unfold constAV at hu
      split at hu <;> first | (injection hu with hu; subst hu; cases hq) | cases hu
    · cases h
  | func f =>
    simp only [opnd] at h
    injection h with h; injection h with h1 h2; subst h1; intro q hq; cases hq
  | global g => simp [opnd] at h

theorem av_cells {s : St} {m : Mem} {v : AV} {x : Value} {ls : List Lf} (hl : avL v = some ls) (h : AVC s m v x) : ∃ cs : List Value, x.cells = cs.toArray ∧ All2 (LfC s m) ls cs := by
  cases v with
  | one l =>
    simp only [avL] at hl; injection hl with hl; subst hl
    refine ⟨[x], ?_, h, trivial⟩
    have := LfC.one h
    cases x <;> simp [Value.oneCell'] at this <;> rfl
  | agg l =>
    simp only [avL] at hl; injection hl with hl; subst hl
    obtain ⟨cs, rfl, h⟩ := h
    exact ⟨cs, rfl, h⟩
  | tup p => simp [avL] at hl
  | und => simp [avL] at hl

theorem avL_men {v : AV} {ls : List Lf} (h : avL v = some ls) : ∀ l ∈ ls, ∀ q ∈ l.men, q ∈ v.men := by
  cases v with
  | one l => simp only [avL] at h; injection h with h; subst h; intro u hu q hq; rw [List.mem_singleton.1 hu] at hq; exact hq
  | agg l => simp only [avL] at h; injection h with h; subst h; intro u hu q hq; exact List.mem_flatMap.2 ⟨u, hu, hq⟩
  | tup p => simp [avL] at h
  | und => simp [avL] at h

def xBox {R : Type} (cfg : Cfg) (s : St) (d t : Nat) (x : Operand) (κ : Ke R) : Option R :=
  match opnd s x with
  | some (v, rx) => match avL v with
    | some ls => κ ⟨rx, [(.t d, some (.t (.one (.ptr d 0)))), (.b d, some (.b ls))], [.b d]⟩
    | none => none
  | none => none

theorem xBox_ok {R : Type} {P : Program} {cfg : Cfg} {s : St} {d t : Nat} {x : Operand} {κ : Ke R} {r : R} (h : xBox cfg s d t x κ = some r) : OutE P s (.box t x) d κ r := by
  unfold xBox at h
  split at h
  · rename_i v rx ex
    split at h
    · rename_i ls el
      refine ⟨_, h, opnd_reads ex, fun n o ho hdst hd w0 φ0 s' a m hr hrd hnew next Q hn => ?_⟩
      obtain ⟨cs, hcs, hl⟩ := av_cells el (opnd_ok ex hr hrd)
      have hlive := opnd_live ex hrd
      have h1 := hr.newBox hd (hnew _ List.mem_cons_self) t hl (All2.one hl) (fun l hm q hq => hlive q (avL_men el l hm q hq))
      have h2 := h1.put (v := .one (.ptr d 0)) (x := .pointer (some ⟨m.w.heap.size, 0, none⟩)) hd ⟨rfl, fun c _ => by simp [upd_same]⟩
      have hrun : (execOp a.eval o).run P m.w = .ok (.value (.pointer (some ⟨m.w.heap.size, 0, none⟩))) (m.w.alloc (.cells cs.toArray t)) := by
        simp [execOp, ho, Instr.box, newVar, newRow, Sem.run_bind, hcs]
      simp only [Oper.wp, hrun, Oper.upon, hdst]
      exact hn _ _ h2
    · cases h
  · cases h

theorem zl_ok : ∀ (k : K) (s : St) (m : Mem), All2 (LfC s m) (zl k) (zc k)
  | .int _, _, _ => ⟨rfl, trivial⟩
  | .bool, _, _ => ⟨rfl, trivial⟩
  | .str, _, _ => ⟨rfl, trivial⟩
  | .sl _ _, _, _ => ⟨rfl, trivial⟩
  | .rs _ _, _, _ => ⟨rfl, trivial⟩
  | .pair a b, s, m => All2.app (zl_ok a s m) (zl_ok b s m)

theorem zl_men : ∀ (k : K), ∀ l ∈ zl k, l.men = []
  | .int _, l, h => by rw [List.mem_singleton.1 h]; rfl
  | .bool, l, h => by rw [List.mem_singleton.1 h]; rfl
  | .str, l, h => by rw [List.mem_singleton.1 h]; rfl
  | .sl _ _, l, h => by rw [List.mem_singleton.1 h]; rfl
  | .rs _ _, l, h => by rw [List.mem_singleton.1 h]; rfl
  | .pair a b, l, h => by
    rcases List.mem_append.1 h with h | h
    · exact zl_men a l h
    · exact zl_men b l h

def xAlloc {R : Type} (cfg : Cfg) (d t : Nat) (κ : Ke R) : Option R :=
  match cfg.ty t with
  | some ti => κ ⟨[], [(.t d, some (.t (.one (.ptr d 0)))), (.b d, some (.b (zl ti.k)))], [.b d]⟩
  | none => none

theorem xAlloc_ok {R : Type} {P : Program} {cfg : Cfg} (hc : CfgOk P cfg) {s : St} {d t : Nat} {κ : Ke R} {r : R} (h : xAlloc cfg d t κ = some r) : OutE P s (.alloc t) d κ r := by
  unfold xAlloc at h
  split at h
  · rename_i ti et
    refine ⟨_, h, Reads.nil _, fun n o ho hdst hd w0 φ0 s' a m hr hrd hnew next Q hn => ?_⟩
    obtain ⟨f, z, hi, hs, hb, hz, hzc, _⟩ := hc.info et
    have h1 := hr.newBox hd (hnew _ List.mem_cons_self) t (zl_ok ti.k s' m) (All2.one (zl_ok ti.k s' m)) (fun l hm q hq => by rw [zl_men _ l hm] at hq; cases hq)
    have h2 := h1.put (v := .one (.ptr d 0)) (x := .pointer (some ⟨m.w.heap.size, 0, none⟩)) hd ⟨rfl, fun c _ => by simp [upd_same]⟩
    have hrun : (execOp a.eval o).run P m.w = .ok (.value (.pointer (some ⟨m.w.heap.size, 0, none⟩))) (m.w.alloc (.cells (zc ti.k).toArray t)) := by
      have : z.cells = (zc ti.k).toArray := by rw [← hzc]
      simp [execOp, ho, Instr.alloc, zeroValue, typeInfo, hi, hz, newVar, newRow, Sem.run_bind, this]
    simp only [Oper.wp, hrun, Oper.upon, hdst]
    exact hn _ _ h2
  · cases h

theorem zero_ow : ∀ (k : K) (w : World) (φ : Col) (p : Path), Ow k w φ p (zd k) (zc k)
  | .int _, _, _, _ => rfl
  | .bool, _, _, _ => rfl
  | .str, _, _, _ => rfl
  | .sl _ _, w, _, _ => ⟨_, rfl, [], owns_nil _ _ _ _, fun g hg => by simp [Value.ownBlock] at hg, fun i h => by simp [zd] at h⟩
  | .rs _ _, _, _, _ => ⟨none, 0, rfl, Nat.le_refl _, Nat.zero_le _, fun h => by simp [zd] at h⟩
  | .pair a b, w, φ, p => ⟨zc a, zc b, rfl, zero_ow a w φ _, zero_ow b w φ _⟩

theorem zc_len : ∀ k : K, (zc k).length = k.sz := fun k => (zero_ow k default noCol []).len

/-- The same operand twice. -/
def sameOp : Operand → Operand → Bool
  | .tmp a, .tmp b => Nat.beq a b
  | .const (.int _ a), .const (.int _ b) => decide (a = b)
  | _, _ => false

def xMake {R : Type} (cfg : Cfg) (s : St) (d t : Nat) (l c : Operand) (κ : Ke R) : Option R :=
  match opnd s l, sameOp l c, cfg.el t with
  | some (.one (.int _ i), rl), true, some e => match cfg.ty e with
    | some ti => bif decide (0 ≤ i) then bif decide (i.toNat ≤ 9223372036854775807) then bif decide (ti.bytes * i.toNat ≤ 281474976710656) then
        κ ⟨rl, [(.t d, some (.t (.one (.own d)))), (.r d, some (.r ⟨e, ti.k, List.replicate i.toNat (zd ti.k), 0⟩))], [.r d]⟩ else none else none else none
    | none => none
  | _, _, _ => none

theorem made_seg {z : Value} {size m j : Nat} (hz : z.cells.size = size) (hs : 0 < size) (hj : j < m) :
    ((madeCells z.cells (m * size)).toList.drop (j * size)).take size = z.cells.toList := by
  have hle : j * size + size ≤ m * size := by rw [← Nat.succ_mul]; exact Nat.mul_le_mul_right _ hj
  apply List.ext_getElem
  · simp [size_madeCells, hz]; omega
  · intro i h1 h2
    have hi : i < size := by rw [Array.length_toList, hz] at h2; exact h2
    have hmod : (j * size + i) % size = i := by
      rw [Nat.mul_comm, Nat.mul_add_mod]
      exact Nat.mod_eq_of_lt hi
    simp [madeCells, hz, hmod]
    rw [getElem!_pos z.cells i (by omega)]

theorem owns_upd {w : World} {e size : Nat} {v : Value} {n : Nat} {xs : List Value} : owns w 0 e size v n xs → owns w 0 e size v n xs := id

theorem xMake_ok {R : Type} {P : Program} {cfg : Cfg} (hc : CfgOk P cfg) {s : St} {d t : Nat} {l c : Operand} {κ : Ke R} {r : R} (h : xMake cfg s d t l c κ = some r) : OutE P s (.makeSlice t l c) d κ r := by
  unfold xMake at h
  split at h
  · rename_i kl i rl e ex esame et
    split at h
    · rename_i ti eti
      obtain ⟨h0, h⟩ := bif_some h
      obtain ⟨h1, h⟩ := bif_some h
      obtain ⟨h2, h⟩ := bif_some h
      have h0 := of_decide_eq_true h0
      have h1 := of_decide_eq_true h1
      have h2 := of_decide_eq_true h2
      refine ⟨_, h, opnd_reads ex, fun n o ho hdst hd w0 φ0 s' a m hr hrd hnew next Q hn => ?_⟩
      obtain ⟨f, z, hi, hs, hb, hz, hzc, _⟩ := hc.info eti
      have hl : a.eval l = .int kl i := opnd_ok ex hr hrd
      have hcv : ∃ kc, a.eval c = .int kc i := by
        cases l with
        | tmp x =>
          cases c with
          | tmp y => simp only [sameOp] at esame; rw [← Nat.eq_of_beq_eq_true esame]; exact ⟨_, hl⟩
          | _ => simp [sameOp] at esame
        | const u =>
          cases u with
          | int k1 n1 =>
            cases c with
            | const u2 =>
              cases u2 with
              | int k2 n2 =>
                simp only [sameOp] at esame
                have esame := of_decide_eq_true esame
                simp only [Act.eval] at hl
                injection hl with _ hl
                subst hl; subst esame
                exact ⟨k2, rfl⟩
              | _ => simp [sameOp] at esame
            | _ => simp [sameOp] at esame
          | _ => simp [sameOp] at esame
        | _ => simp [sameOp] at esame
      obtain ⟨kc, hcv⟩ := hcv
      have hi0 : ((i.toNat : Nat) : Int) = i := Int.toNat_of_nonneg h0
      have hzs : z.cells.size = ti.k.sz := by rw [← Array.length_toList, hzc, zc_len]
      have hrun : (execOp a.eval o).run P m.w = .ok (.value (.slice (some ⟨m.w.heap.size, 0, none⟩) i.toNat i.toNat)) (m.w.alloc (.cells (madeCells z.cells (i.toNat * ti.k.sz)) e)) := by
        have := run_make (P := P) m.w t e f z (hc.el et) hi hz kl kc i i h0 (Int.le_refl _) (by
          rw [hb, ← hi0, ← Int.natCast_mul]; exact Int.ofNat_le.2 h2) (by omega)
        rw [hs] at this
        simp [execOp, ho, hl, hcv, Sem.run_bind, this]
      have hlen : (List.replicate i.toNat (zd ti.k)).length = i.toNat := List.length_replicate
      have h3 := hr.newRow (d := d) hd (hnew _ List.mem_cons_self) (row := ⟨e, ti.k, List.replicate i.toNat (zd ti.k), 0⟩) (o := .cells (madeCells z.cells (i.toNat * ti.k.sz)) e) (v := .slice (some ⟨m.w.heap.size, 0, none⟩) i.toNat i.toNat) (by
        refine ⟨(madeCells z.cells (i.toNat * ti.k.sz)).toList, ?_, fun g hg => ?_, fun j hj => ?_⟩
        · rw [hlen]
          exact owns_of (World.ownsRow_lit m.w _ _ (Nat.zero_le _) (by simp only [maxLen]; omega) (size_madeCells _ _))
        · simp only [Value.ownBlock] at hg
          injection hg with hg; subst hg
          simp [upd_same]
        · simp only [List.length_replicate] at hj
          simp only [List.getElem_replicate]
          rw [made_seg hzs ti.k.sz_pos hj, hzc]
          exact zero_ow _ _ _ _)
      have h4 := h3.put (v := .one (.own d)) (x := .slice (some ⟨m.w.heap.size, 0, none⟩) i.toNat i.toNat) hd ⟨rfl, fun r _ => by simp [upd_same]⟩
      simp only [Oper.wp, hrun, Oper.upon, hdst]
      exact hn _ _ h4
    · cases h
  · cases h

end Go.Proofs.Ytlgbhpphfimdbaa.Ev
