/- Evaluating operations that change no memory (1): moves, numbers, texts, structs. -/
import Derived.Test.YtlgbhpphfimdbaaEv5
namespace Go.Proofs.Ytlgbhpphfimdbaa.Ev
set_option linter.unusedVariables false
set_option linter.unusedSimpArgs false

abbrev Rds := List (Loc × LV)
abbrev Kp (R : Type) := Rds → List (Nat × Int) → AV → Option R

def OutP {R : Type} (P : Program) (s : St) (op : Op) (κ : Kp R) (r : R) : Prop :=
  ∃ rds xw v, κ rds xw v = some r ∧ Reads s rds ∧ ∀ n (o : Oper), o.op = op → Pure1 P n o rds xw v

theorem Reads.nil (s : St) : Reads s [] := fun _ h => nomatch h

/-- A helper: an operation's run, where it needs no new place. -/
theorem OutP.mk' {R : Type} {P : Program} {s : St} {op : Op} {κ : Kp R} {r : R} (rds : Rds) (v : AV) (hκ : κ rds [] v = some r) (hrd : Reads s rds)
    (h : ∀ n w0 φ0 s a m (o : Oper), o.op = op → Rel n w0 φ0 s a m → Reads s rds → ∃ val, (execOp a.eval o).run P m.w = .ok (.value val) m.w ∧ AVC s m v val) : OutP P s op κ r :=
  ⟨rds, [], v, hκ, hrd, fun n o ho w0 φ0 s a m hr hrd _ => h n w0 φ0 s a m o ho hr hrd⟩

/-- The operation's semantics, through its operands. -/
theorem run_v {P : Program} {w : World} {x : Sem Value} {v : Value} (h : x.run P w = .ok v w) : (do pure (Next.value (← x)) : Sem Next).run P w = .ok (.value v) w := by
  simp [Sem.run_bind, h]

def pMove {R : Type} (s : St) (x : Operand) (κ : Kp R) : Option R :=
  match opnd s x with
  | some (v, rds) => κ rds [] v
  | none => none

theorem pMove_ok {R : Type} {P : Program} {s : St} {x : Operand} {κ : Kp R} {r : R} (h : pMove s x κ = some r) {op : Op} (hop : op = .move x ∨ op = .assign x) : OutP P s op κ r := by
  unfold pMove at h
  split at h
  · rename_i v rds e
    refine .mk' rds v h (opnd_reads e) fun n w0 φ0 s' a m o ho hr hrd => ⟨a.eval x, ?_, opnd_ok e hr hrd⟩
    rcases hop with rfl | rfl <;> simp [execOp, ho]
  · cases h

def pPick {R : Type} (s : St) (c x y : Operand) (κ : Kp R) : Option R :=
  match opnd s c with
  | some (.one (.bool b), rc) => bif b then (match opnd s x with | some (v, rds) => κ (rc ++ rds) [] v | none => none) else (match opnd s y with | some (v, rds) => κ (rc ++ rds) [] v | none => none)
  | _ => none

theorem pPick_ok {R : Type} {P : Program} {s : St} {c x y : Operand} {κ : Kp R} {r : R} (h : pPick s c x y κ = some r) : OutP P s (.pick c x y) κ r := by
  unfold pPick at h
  split at h
  · rename_i b rc ec
    cases b with
    | true =>
      simp only [cond_true] at h
      split at h
      · rename_i v rds e
        refine .mk' (rc ++ rds) v h (Reads.app.2 ⟨opnd_reads ec, opnd_reads e⟩) fun n w0 φ0 s' a m o ho hr hrd => ⟨a.eval x, ?_, opnd_ok e hr (Reads.app.1 hrd).2⟩
        have hb : a.eval c = .bool true := opnd_ok ec hr (Reads.app.1 hrd).1
        simp [execOp, ho, hb, asBool]
      · cases h
    | false =>
      simp only [cond_false] at h
      split at h
      · rename_i v rds e
        refine .mk' (rc ++ rds) v h (Reads.app.2 ⟨opnd_reads ec, opnd_reads e⟩) fun n w0 φ0 s' a m o ho hr hrd => ⟨a.eval y, ?_, opnd_ok e hr (Reads.app.1 hrd).2⟩
        have hb : a.eval c = .bool false := opnd_ok ec hr (Reads.app.1 hrd).1
        simp [execOp, ho, hb, asBool]
      · cases h
  · cases h

/-- An operator's value. -/
def binL {R : Type} (cfg : Cfg) (op : BinOp) (t : Nat) (x y : Lf) (κ : Lf → Option R) : Option R :=
  match op, x, y with
  | .quo, .int k a, .int k' b => match decide (k = k') with
    | true => bif b == 0 then none else κ (.int k (k.wrap (a.tdiv b)))
    | false => none
  | .rem, .int k a, .int k' b => match decide (k = k') with
    | true => bif b == 0 then none else κ (.int k (a.tmod b))
    | false => none
  | .shl, .int k a, .int _ b => bif decide (b < 0) then none else κ (.int k (k.wrap (a * 2 ^ (min b.toNat k.bits))))
  | .shr, .int k a, .int _ b => bif decide (b < 0) then none else κ (.int k (a.fdiv (2 ^ (min b.toNat k.bits))))
  | .add, .str a, .str b => bif decide (((a.size + b.size : Nat) : Int) > IntKind.i64.max) then none else κ (.str (a ++ b))
  | .eql, .bool a, .bool b => match cfg.ty t with
    | some ⟨_, .bool, _, _⟩ => κ (.bool (a == b))
    | _ => none
  | .neq, .bool a, .bool b => match cfg.ty t with
    | some ⟨_, .bool, _, _⟩ => κ (.bool (!(a == b)))
    | _ => none
  | op, x, y => match scal2 op t x y with
    | some l => κ l
    | none => none

theorem binL_ok {R : Type} {P : Program} {cfg : Cfg} (hc : CfgOk P cfg) {op : BinOp} {t : Nat} {x y : Lf} {κ : Lf → Option R} {r : R} (h : binL cfg op t x y κ = some r) :
    ∃ l, κ l = some r ∧ ∀ (s : St) (m : Mem) (a b : Value) (X Y : Operand), LfC s m x a → LfC s m y b →
      (eqGuard op t X Y a b).run P m.w = .ok () m.w ∧ ∃ v, (binOp op t a b).run P m.w = .ok v m.w ∧ LfC s m l v := by
  unfold binL at h
  split at h
  · split at h
    · rename_i k a k' b _ hk
      have hk := of_decide_eq_true hk
      subst hk
      cases hb : (b == 0) with
      | true => rw [hb] at h; cases h
      | false =>
        rw [hb] at h
        have hb' : b ≠ 0 := by simpa using hb
        refine ⟨_, h, fun s m u v X Y hu hv => ?_⟩
        simp only [LfC] at hu hv; subst hu; subst hv
        exact ⟨by simp [eqGuard], _, by simp [binOp, Op.intDiv, hb'], rfl⟩
    · cases h
  · split at h
    · rename_i k a k' b _ hk
      have hk := of_decide_eq_true hk
      subst hk
      cases hb : (b == 0) with
      | true => rw [hb] at h; cases h
      | false =>
        rw [hb] at h
        have hb' : b ≠ 0 := by simpa using hb
        refine ⟨_, h, fun s m u v X Y hu hv => ?_⟩
        simp only [LfC] at hu hv; subst hu; subst hv
        exact ⟨by simp [eqGuard], _, by simp [binOp, Op.intDiv, hb'], rfl⟩
    · cases h
  · rename_i k a k' b
    cases hb : decide (b < 0) with
    | true => rw [hb] at h; cases h
    | false =>
      rw [hb] at h
      have hb' : ¬ b < 0 := by simpa using hb
      refine ⟨_, h, fun s m u v X Y hu hv => ?_⟩
      simp only [LfC] at hu hv; subst hu; subst hv
      exact ⟨by simp [eqGuard], _, by simp [binOp, Op.shift, hb'], rfl⟩
  · rename_i k a k' b
    cases hb : decide (b < 0) with
    | true => rw [hb] at h; cases h
    | false =>
      rw [hb] at h
      have hb' : ¬ b < 0 := by simpa using hb
      refine ⟨_, h, fun s m u v X Y hu hv => ?_⟩
      simp only [LfC] at hu hv; subst hu; subst hv
      exact ⟨by simp [eqGuard], _, by simp [binOp, Op.shift, hb'], rfl⟩
  · rename_i a b
    cases hb : decide (((a.size + b.size : Nat) : Int) > IntKind.i64.max) with
    | true => rw [hb] at h; cases h
    | false =>
      rw [hb] at h
      have hb' : ¬ ((a.size + b.size : Nat) : Int) > IntKind.i64.max := of_decide_eq_false hb
      refine ⟨_, h, fun s m u v X Y hu hv => ?_⟩
      simp only [LfC] at hu hv; subst hu; subst hv
      refine ⟨by simp [eqGuard], _, ?_, rfl⟩
      simp only [binOp, Op.stringOp]
      rw [if_neg hb']
      rfl
  · split at h
    · rename_i a b _ _ _ _ e
      refine ⟨_, h, fun s m u v X Y hu hv => ?_⟩
      simp only [LfC] at hu hv; subst hu; subst hv
      exact ⟨by simp [eqGuard], _, run_eql_bool m.w t a b (hc.bool e rfl), rfl⟩
    · cases h
  · split at h
    · rename_i a b _ _ _ _ e
      refine ⟨_, h, fun s m u v X Y hu hv => ?_⟩
      simp only [LfC] at hu hv; subst hu; subst hv
      exact ⟨by simp [eqGuard], _, run_neq_bool m.w t a b (hc.bool e rfl), rfl⟩
    · cases h
  · split at h
    · rename_i l e
      refine ⟨l, h, fun s m u v X Y hu hv => ⟨?_, scal2_ok e hu hv P⟩⟩
      unfold scal2 at e
      split at e
      · rename_i va vb e1 e2
        exact eqGuard_sc e1 hu P
      · cases e
    · cases h

def pBin {R : Type} (cfg : Cfg) (s : St) (op : BinOp) (t : Nat) (x y : Operand) (κ : Kp R) : Option R :=
  match opnd s x, opnd s y with
  | some (.one lx, rx), some (.one ly, ry) => binL cfg op t lx ly fun l => κ (rx ++ ry) [] (.one l)
  | _, _ => none

theorem pBin_ok {R : Type} {P : Program} {cfg : Cfg} (hc : CfgOk P cfg) {s : St} {op : BinOp} {t : Nat} {x y : Operand} {κ : Kp R} {r : R} (h : pBin cfg s op t x y κ = some r) (yt : Nat) :
    OutP P s (.binOp op t x y yt) κ r := by
  unfold pBin at h
  split at h
  · rename_i lx rx ly ry ex ey
    obtain ⟨l, hκ, hl⟩ := binL_ok hc h
    refine .mk' (rx ++ ry) (.one l) hκ (Reads.app.2 ⟨opnd_reads ex, opnd_reads ey⟩) fun n w0 φ0 s' a m o ho hr hrd => ?_
    obtain ⟨hg, v, hrun, hv⟩ := hl s' m (a.eval x) (a.eval y) x y (opnd_ok ex hr (Reads.app.1 hrd).1) (opnd_ok ey hr (Reads.app.1 hrd).2)
    exact ⟨v, by simp [execOp, ho, Sem.run_bind, hg, hrun], hv⟩
  · cases h

def pUn {R : Type} (s : St) (op : UnOp) (x : Operand) (κ : Kp R) : Option R :=
  match opnd s x with
  | some (.one lx, rx) => match lfV lx with
    | some v => match Op.unary op v with
      | .pure u => match ofV u with
        | some l => κ rx [] (.one l)
        | none => none
      | _ => none
    | none => none
  | _ => none

theorem pUn_ok {R : Type} {P : Program} {s : St} {op : UnOp} {x : Operand} {κ : Kp R} {r : R} (h : pUn s op x κ = some r) (t : Nat) : OutP P s (.unOp op t x) κ r := by
  unfold pUn at h
  split at h
  · rename_i lx rx ex
    split at h
    · rename_i v ev
      split at h
      · rename_i u eu
        split at h
        · rename_i l el
          refine .mk' rx (.one l) h (opnd_reads ex) fun n w0 φ0 s' a m o ho hr hrd => ⟨u, ?_, ofV_ok el s' m⟩
          have hx : a.eval x = v := lfV_ok ev (opnd_ok ex hr hrd)
          simp [execOp, ho, hx, eu]
        · cases h
      · cases h
    · cases h
  · cases h

theorem run_und {P : Program} {t : Nat} {d : TypeDesc} (h : P.underlying t = some d) (w : World) : (underlying t).run P w = .ok d w := run_underlying h w

/-- A whole number's kind, of a type. -/
def intK (cfg : Cfg) (t : Nat) : Option IntKind := match cfg.ty t with | some ⟨_, .int κ, _, _⟩ => some κ | _ => none
def isStrT (cfg : Cfg) (t : Nat) : Bool := match cfg.ty t with | some ⟨_, .str, _, _⟩ => true | _ => false
theorem intK_ok {P : Program} {cfg : Cfg} (hc : CfgOk P cfg) {t : Nat} {κ : IntKind} (h : intK cfg t = some κ) : P.underlying t = some (.int κ) := by
  unfold intK at h; split at h
  · rename_i e; injection h with h; subst h; exact hc.int e rfl
  · cases h
theorem isStrT_ok {P : Program} {cfg : Cfg} (hc : CfgOk P cfg) {t : Nat} (h : isStrT cfg t = true) : P.underlying t = some .string := by
  unfold isStrT at h; split at h
  · rename_i e; exact hc.str e rfl
  · cases h

/-- A text of bytes. -/
def strOf (xs : List Int) : ByteArray := strOfNums xs

def pConv {R : Type} (cfg : Cfg) (s : St) (src dst : Nat) (x : Operand) (κ : Kp R) : Option R :=
  match opnd s x with
  | some (.one (.int k n), rx) => match cfg.ty src, intK cfg dst with
    | some _, some κ' => κ rx [] (.one (.int κ' (κ'.wrap n)))
    | _, _ => none
  | some (.one (.str b), rx) => match cfg.ty src, isStrT cfg dst with
    | some _, true => κ rx [] (.one (.str b))
    | _, _ => none
  | some (.one l, rx) => match cfg.el src, isStrT cfg dst with
    | some e, true => match intK cfg e with
      | some .u8 => match content cfg s src l with
        | some (⟨_, .int .u8, xs⟩, rl) => κ (rx ++ rl) [] (.one (.str (strOf xs)))
        | _ => none
      | _ => none
    | _, _ => none
  | _ => none

theorem cell_spot {w : World} {a : Addr} {v : Value} (h : w.cell? a = some v) : a.spot = none := by
  unfold World.cell? at h
  split at h
  · split at h
    · cases h
    · rename_i hh; simpa using hh
  · cases h

theorem add_plain (g o n : Nat) : (⟨g, o, none⟩ : Addr).add n = ⟨g, o + n, none⟩ := by unfold Addr.add; split <;> simp_all

theorem run_bytes {P : Program} {w : World} {φ : Col} {e e' src dst : Nat} {xs : List Int} {v : Value} (h : Ro (.rs e' (.int .u8)) w φ xs [v])
    (hs : P.underlying src = some (.slice e)) (he : P.underlying e = some (.int .u8)) (hd : P.underlying dst = some .string) :
    (convert src dst v).run P w = .ok (.string (strOf xs)) w := by
  obtain ⟨A, c, e1, hl, hm, hc⟩ := h
  injection e1 with e1 _
  subst e1
  cases A with
  | none =>
    have hn : xs = [] := by
      cases xs with
      | nil => rfl
      | cons x xs => obtain ⟨ad, h, _⟩ := hc (by simp); cases h
    subst hn
    rw [run_convert_bytes_nil w src e hs he _ _ dst hd]; rfl
  | some ad =>
    by_cases hn : 0 < xs.length
    · obtain ⟨ad', e2, hφ, hi⟩ := hc hn
      injection e2 with e2; subst e2
      obtain ⟨ds, hd0, hr, hcell⟩ := hi 0 hn
      have hsp : ad.spot = none := by
        have h1 : 0 < ds.length := by rw [hd0]; exact Nat.one_pos
        have := cell_spot (hcell 0 ds[0] (by simp [h1]))
        simpa [Addr.add] using this
      obtain ⟨b, off, sp⟩ := ad
      simp only at hsp; subst hsp
      refine run_convert_bytes_arg w src e hs he b off _ c xs rfl (fun i hi' => ?_) dst hd
      obtain ⟨ds, hd, hr, hcell⟩ := hi i hi'
      simp only [Ro] at hr
      subst hr
      have := hcell 0 (.int .u8 xs[i]) (by simp)
      simp only [K.sz, Nat.mul_one, Nat.add_zero, add_plain] at this
      rw [this]
      simp [List.getD_eq_getElem?_getD, hi']
    · have hn : xs = [] := List.eq_nil_of_length_eq_zero (by omega)
      subst hn
      have hl0 : (loadCells ad 0).run P w = .ok (([] : List Int).map (Value.int .u8)).toArray w := rfl
      rw [show ([] : List Int).length = 0 from rfl, run_convert_bytes_string w src dst e _ _ _ hs he hd, run_bytesToString w ad 0 c [] hl0]; rfl

theorem pConv_ok {R : Type} {P : Program} {cfg : Cfg} (hc : CfgOk P cfg) {s : St} {src dst : Nat} {x : Operand} {κ : Kp R} {r : R} (h : pConv cfg s src dst x κ = some r) :
    OutP P s (.convert src dst x) κ r := by
  unfold pConv at h
  split at h
  · rename_i k n rx ex
    split at h
    · rename_i ti κ' e1 e2
      refine .mk' rx _ h (opnd_reads ex) fun n0 w0 φ0 s' a m o ho hr hrd => ⟨_, ?_, rfl⟩
      have hx : a.eval x = .int k n := opnd_ok ex hr hrd
      obtain ⟨d, hd, _⟩ := hc.agg e1
      have h2 := run_und (intK_ok hc e2) m.w
      have h1 := run_und hd m.w
      simp [execOp, ho, hx, convert, h1, h2, Conv.intToInt]
    · cases h
  · rename_i b rx ex
    split at h
    · rename_i ti e1 e2
      refine .mk' rx _ h (opnd_reads ex) fun n0 w0 φ0 s' a m o ho hr hrd => ⟨_, ?_, rfl⟩
      have hx : a.eval x = .string b := opnd_ok ex hr hrd
      obtain ⟨d, hd, _⟩ := hc.agg e1
      have h2 := run_und (isStrT_ok hc e2) m.w
      have h1 := run_und hd m.w
      simp [execOp, ho, hx, convert, h1, h2]
    · cases h
  · rename_i l rx _ _ ex
    split at h
    · rename_i e e1 e2
      split at h
      · rename_i e3
        split at h
        · rename_i xs rl e4
          refine .mk' (rx ++ rl) _ h (Reads.app.2 ⟨opnd_reads ex, content_reads e4⟩) fun n0 w0 φ0 s' a m o ho hr hrd => ⟨_, ?_, rfl⟩
          have hro := content_ok e4 hr (Reads.app.1 hrd).2 (opnd_ok ex hr (Reads.app.1 hrd).1)
          have := run_bytes (P := P) hro (hc.el e1) (intK_ok hc e3) (isStrT_ok hc e2)
          simp [execOp, ho, Sem.run_bind, this]
        · cases h
      · cases h
    · cases h
  · cases h

end Go.Proofs.Ytlgbhpphfimdbaa.Ev
