/- A slice compared with nil: what is not empty is not nil; of an empty one nobody knows. Bytes of a constant: their row is marked behind its end. -/
import Derived.Test.YtlgbhpphfimdbaaEv33
import Derived.Laws.IdiomStrings
set_option linter.unusedVariables false
namespace Go.Proofs.Ytlgbhpphfimdbaa.Ev
def nilL (n : Nat) (neg : Bool) : Lf := bif decide (0 < n) then .bool neg else .anyb

def pNilEq {R : Type} (cfg : Cfg) (s : St) (neg : Bool) (t : Nat) (x : Operand) (κ : Kp R) : Option R :=
  match opnd s x, cfg.el t with
  | some (.one l, rx), some _ => match content cfg s t l with
    | some (sl, rl) => bif decide (0 < sl.xs.length) then κ (rx ++ rl) [] (.one (.bool neg)) else κ (rx ++ rl) [] (.one .anyb)
    | none => none
  | _, _ => none

theorem run_eqnil {P : Program} {t e : TypeId} (hu : P.underlying t = some (.slice e)) (A : Option Addr) (n c : Nat) (w : World) : (binOp .eql t (.slice A n c) (.slice none 0 0)).run P w = .ok (.bool A.isNone) w := by
  simp only [binOp]
  have h : (Op.equal t (.slice A n c) (.slice none 0 0)).run P w = .ok A.isNone w := by
    unfold Op.equal Op.maxDepth
    unfold Op.equalIn
    cases A <;> simp [run_und hu]
  simp [h]
theorem run_nenil {P : Program} {t e : TypeId} (hu : P.underlying t = some (.slice e)) (A : Option Addr) (n c : Nat) (w : World) : (binOp .neq t (.slice A n c) (.slice none 0 0)).run P w = .ok (.bool (!A.isNone)) w := by
  simp only [binOp]
  have h : (Op.equal t (.slice A n c) (.slice none 0 0)).run P w = .ok A.isNone w := by
    unfold Op.equal Op.maxDepth
    unfold Op.equalIn
    cases A <;> simp [run_und hu]
  simp [h]

def negOp : Bool → BinOp
  | true => .neq
  | false => .eql

theorem run_nil {P : Program} {t e : TypeId} (hu : P.underlying t = some (.slice e)) (neg : Bool) (A : Option Addr) (n c : Nat) (w : World) : (binOp (negOp neg) t (.slice A n c) (.slice none 0 0)).run P w = .ok (.bool (Bool.xor neg A.isNone)) w := by
  cases neg with
  | true => rw [negOp, run_nenil hu]; simp
  | false => rw [negOp, run_eqnil hu]; simp

theorem pNilEq_ok {R : Type} {P : Program} {cfg : Cfg} (hc : CfgOk P cfg) {s : St} {neg : Bool} {t : Nat} {x : Operand} {κ : Kp R} {r : R} (h : pNilEq cfg s neg t x κ = some r) (yt : Nat) :
    OutP P s (.binOp (negOp neg) t x (.const (.slice none 0 0)) yt) κ r := by
  unfold pNilEq at h
  split at h
  · rename_i l rx e ex et
    split at h
    · rename_i sl rl ec
      have key : ∀ (n0 : Nat) (w0 : World) (φ0 : Gh) (s' : St) (a : Act) (m : Mem) (o : Oper), o.op = .binOp (negOp neg) t x (.const (.slice none 0 0)) yt → Rel n0 w0 φ0 s' a m → Reads s' (rx ++ rl) →
          ∃ A : Option Addr, (0 < sl.xs.length → A.isNone = false) ∧ (execOp a.eval o).run P m.w = .ok (.value (.bool (Bool.xor neg A.isNone))) m.w := by
        intro n0 w0 φ0 s' a m o ho hr hrd
        have hro := content_ok ec hr (Reads.app.1 hrd).2 (opnd_ok ex hr (Reads.app.1 hrd).1)
        obtain ⟨A, c, e1, hl, _, hA⟩ := hro
        injection e1 with e1 _
        refine ⟨A, fun hp => ?_, ?_⟩
        · obtain ⟨ad, rfl, _⟩ := hA hp
          rfl
        · have hg : (eqGuard (negOp neg) t x (.const (.slice none 0 0)) (.slice A sl.xs.length c) (.slice none 0 0)).run P m.w = .ok () m.w := by
            cases neg <;> simp [negOp, eqGuard]
          have he : a.eval (.const (.slice none 0 0)) = .slice none 0 0 := rfl
          simp [execOp, ho, e1, he, Sem.run_bind, hg, run_nil (hc.el et)]
      cases hd : decide (0 < sl.xs.length) with
      | true =>
        rw [hd] at h
        refine .mk' _ _ h (Reads.app.2 ⟨opnd_reads ex, content_reads ec⟩) fun n0 w0 φ0 s' a m oo ho hr hrd => ?_
        obtain ⟨A, hA, hrun⟩ := key n0 w0 φ0 s' a m oo ho hr hrd
        rw [hA (of_decide_eq_true hd)] at hrun
        exact ⟨_, hrun, by simp [AVC, LfC]⟩
      | false =>
        rw [hd] at h
        refine .mk' _ _ h (Reads.app.2 ⟨opnd_reads ex, content_reads ec⟩) fun n0 w0 φ0 s' a m oo ho hr hrd => ?_
        obtain ⟨A, hA, hrun⟩ := key n0 w0 φ0 s' a m oo ho hr hrd
        exact ⟨_, hrun, _, rfl⟩
    · cases h
  · cases h

theorem freeze_heap {w : World} {g : Nat} {cur : Array Value} {e : TypeId} {fz : Nat × Nat} (hg : w.heap[g]? = some (.cells cur e fz)) (hf : Thawed cur.size fz) :
    (w.freeze ⟨g, cur.size, none⟩ 1).heap[g]? = some (.cells cur e (cur.size, cur.size + 1)) ∧ ∀ b, b ≠ g → (w.freeze ⟨g, cur.size, none⟩ 1).heap[b]? = w.heap[b]? := by
  unfold World.freeze
  rw [if_neg (by decide)]
  constructor
  · simp only [Array.getElem?_modify, if_true, hg, Option.map_some]
    rcases hf with rfl | rfl
    · simp
    · simp
  · intro b hb
    simp only [Array.getElem?_modify]
    rw [if_neg (fun e => hb e.symm)]

theorem run_frz {P : Program} {w : World} {t e : TypeId} {g n c : Nat} {cur : Array Value} {e' : TypeId} {fz : Nat × Nat} (ht : P.underlying t = some (.slice e)) (he : P.underlying e = some (.int .u8)) (hg : w.heap[g]? = some (.cells cur e' fz)) :
    (convert t t (.slice (some ⟨g, 0, none⟩) n c)).run P w = .ok (.slice (some ⟨g, 0, none⟩) n c) (w.freeze ⟨g, cur.size, none⟩ 1) := by
  have hsh : w.shape? g = some (e', cur.size) := by
    unfold World.shape?
    rw [hg]
  simp [convert, run_underlying ht, run_underlying he, markStringish, hsh]

def xFrz {R : Type} (cfg : Cfg) (s : St) (d a b : Nat) (x : Operand) (κ : Ke R) : Option R :=
  match opnd s x, cfg.el a with
  | some (.one (.own id), rx), some e => match s.getR id, Nat.beq a b, intK cfg e with
    | some r, true, some .u8 => bif decide (0 < r.xs.length) then κ ⟨rx ++ [(.r id, .r r)], [(.t d, some (.t (.one (.own id)))), (.r id, some (.r ⟨r.e, r.k, r.xs, r.ver + 1⟩))], []⟩ else none
    | _, _, _ => none
  | _, _ => none

theorem xFrz_ok {R : Type} {P : Program} {cfg : Cfg} (hc : CfgOk P cfg) {s : St} {d a b : Nat} {x : Operand} {κ : Ke R} {r : R} (h : xFrz cfg s d a b x κ = some r) : OutE P s (.convert a b x) d κ r := by
  unfold xFrz at h
  split at h
  · rename_i id rx e ex et
    split at h
    · rename_i row er eab ek
      have eab := Nat.eq_of_beq_eq_true eab
      subst eab
      obtain ⟨h0, h⟩ := bif_some h
      have h0 := of_decide_eq_true h0
      have hread : Reads s [(Loc.r id, LV.r row)] := by
        intro p hp
        rw [List.mem_singleton.1 hp]
        exact St.getR_some.1 er
      refine ⟨_, h, Reads.app.2 ⟨opnd_reads ex, hread⟩, fun n o ho hdst hd w0 φ0 s' ac m hr hrd hnew next Q hn => ?_⟩
      have hrow : s'.get (.r id) = some (.r row) := (Reads.app.1 hrd).2 (Loc.r id, LV.r row) List.mem_cons_self
      have hv : LfC s' m (.own id) (ac.eval x) := opnd_ok ex hr (Reads.app.1 hrd).1
      have hv := hv.2 row hrow
      obtain ⟨inner, hown, hcol, hels⟩ := hr.rw id row hrow
      rcases hown.2 with ⟨_, hn0⟩ | ⟨g, cap, cur, fz, e0, _, hg, hfz, hnc, hcap, hcs, ht⟩
      · omega
      · have hk : P.underlying e = some (.int .u8) := intK_ok hc ek
        have hrun : (execOp ac.eval o).run P m.w = .ok (.value (.slice (some ⟨g, 0, none⟩) row.xs.length cap)) (m.w.freeze ⟨g, cur.size, none⟩ 1) := by
          have := run_frz (P := P) (w := m.w) (n := row.xs.length) (c := cap) (hc.el et) hk hg
          simp [execOp, ho, hv, e0, this]
        obtain ⟨f1, f2⟩ := freeze_heap hg hfz
        have hcolg := hcol g (by rw [e0]; rfl)
        have hother : ∀ b, (∀ q, m.φ b ≠ some (2 * id :: q)) → b ≠ g := fun b hq e => hq [] (by rw [e]; exact hcolg)
        have hels' : ∀ i (hi : i < row.xs.length), Ow row.k (m.w.freeze ⟨g, cur.size, none⟩ 1) m.φ ([2 * id] ++ [i]) row.xs[i] ((inner.drop (i * row.k.sz)).take row.k.sz) := by
          intro i hi
          refine Ow.move (hels i hi) (fun b q hb _ => ⟨f2 b (fun e => ?_), hb⟩) (fun b hb _ => ⟨f2 b (fun e => ?_), hb⟩)
          · rw [e, hcolg] at hb
            injection hb with hb
            simp at hb
          · rw [e, hcolg] at hb; cases hb
        have h2 := hr.updRow (w' := m.w.freeze ⟨g, cur.size, none⟩ 1) hrow (row := ⟨row.e, row.k, row.xs, row.ver + 1⟩) (fun b hb hq => ⟨f2 b (hother b hq), rfl⟩) (by simp [World.freeze]) (by simp [World.freeze]) (by simp [World.freeze]) (by simp [World.freeze]) rfl rfl (Nat.lt_succ_self _)
          ⟨inner, ⟨hown.1, .inr ⟨g, cap, cur, _, e0, Nat.zero_le _, f1, .inr rfl, hnc, hcap, hcs, ht⟩⟩, hcol, hels'⟩
        have h3 := h2.put (d := d) (v := .one (.own id)) (x := .slice (some ⟨g, 0, none⟩) row.xs.length cap) hd ⟨rfl, fun r2 hr2 => e0.symm⟩
        simp only [Oper.wp, hrun, Oper.upon, hdst]
        exact hn _ _ h3
    · cases h
  · cases h
end Go.Proofs.Ytlgbhpphfimdbaa.Ev
