/- One operation at its place in a region, and all of a region's operations in text order. -/
import Derived.Test.YtlgbhpphfimdbaaEv18
import Derived.Orders
namespace Go.Proofs.Ytlgbhpphfimdbaa.Ev
set_option linter.unusedVariables false
set_option linter.unusedSimpArgs false

/-- States that tell the same. -/
def Geq (s s' : St) : Prop := ∀ l, St.get s' l = St.get s l

theorem Geq.refl (s : St) : Geq s s := fun _ => rfl
theorem Geq.trans {s s1 s2 : St} (h : Geq s s1) (h1 : Geq s1 s2) : Geq s s2 := fun l => (h1 l).trans (h l)
theorem Geq.symm {s s1 : St} (h : Geq s s1) : Geq s1 s := fun l => (h l).symm
theorem Geq.cons {s s1 : St} (h : Geq s s1) (p : Loc × Option LV) : Geq (p :: s) (p :: s1) := by
  intro l
  obtain ⟨q, v⟩ := p
  by_cases e : q = l
  · subst e; rw [St.get_cons_same, St.get_cons_same]
  · rw [St.get_cons_ne e, St.get_cons_ne e]; exact h l
theorem Geq.app {s s1 : St} (h : Geq s s1) : ∀ (w : St), Geq (w ++ s) (w ++ s1)
  | [] => h
  | p :: w => (Geq.app h w).cons p

theorem Geq.ext {s s1 : St} (h : Geq s s1) (m : Mem) (L : Loc → Prop) : Ext s m s1 m L := Ext.same (fun l _ => h l) L

theorem Rel.geq {n : Nat} {w0 : World} {φ0 : Gh} {s s1 : St} {a : Act} {m : Mem} (h : Rel n w0 φ0 s a m) (hg : Geq s s1) : Rel n w0 φ0 s1 a m :=
  h.change (fun d => hg _) (hg.ext m _) (fun id r hr => h.rw id r (by rw [← hg]; exact hr)) (fun b c hc => by
    obtain ⟨cs, h1, h2, h3, h4⟩ := h.bx b c (by rw [← hg]; exact hc)
    exact ⟨cs, All2.imp (fun l hl b' hb => hb.ext (hg.ext m _)) h1, h2, h3, h4⟩) (Fore.refl _ _) (Nat.le_refl _) rfl rfl rfl (fun id r _ _ hg' => ⟨⟨r, by rw [← hg]; exact hg'⟩, rfl⟩) (fun b c _ _ hg' => ⟨⟨c, by rw [← hg]; exact hg'⟩, rfl⟩)

theorem Reads.geq {s s1 : St} {rd : Rds} (h : Reads s rd) (hg : Geq s s1) : Reads s1 rd := fun p hp => (hg _).trans (h p hp)

theorem Live.geq {s s1 : St} (hg : Geq s s1) {l : Loc} (h : Live s1 l) : Live s l := by
  obtain ⟨l', lv, h1, h2⟩ := h
  exact ⟨l', lv, by rw [← hg]; exact h1, h2⟩

/-- What a region's operation at place i does. -/
def Place (P : Program) (n : Nat) (ops : Array Oper) (i : Nat) (δ : Δ) : Prop :=
  ∀ w0 φ0 s a m, Rel n w0 φ0 s a m → Reads s δ.rd → (∀ l ∈ δ.new, ¬ Live s l) → ∀ (Q : Exit → Act → World → Prop) (K : Act → World → Prop),
    (∀ a' m', Rel n w0 φ0 (δ.wr ++ s) a' m' → K a' m'.w) → wpOp P ops Q i K a m.w

def dstOf (ops : Array Oper) (j : Nat) : Option Nat := match ops[j]? with
  | some o => o.dst
  | none => none

theorem yielded_of {n : Nat} {w0 : World} {φ0 : Gh} {s : St} {a : Act} {m : Mem} (h : Rel n w0 φ0 s a m) {ops : Array Oper} {j d : Nat} (hd : dstOf ops j = some d) {b : Bool}
    (hg : s.get (.t d) = some (.t (.one (.bool b)))) : yielded ops a.tmps j = some b := by
  have h1 : ((ops[j]?).bind (·.dst)) = some d := by
    unfold dstOf at hd
    split at hd
    · rename_i o e; rw [e]; exact hd
    · cases hd
  have h2 : a.tmps.getD d undef = .bool b := h.tm d _ hg
  have h3 : a.tmps[d]? = some (.bool b) := by
    rw [Array.getD_eq_getD_getElem?] at h2
    cases e : a.tmps[d]? with
    | none => rw [e] at h2; cases h2
    | some v => rw [e] at h2; simp at h2; rw [h2]
  simp only [yielded, h1, Option.bind_some, h3]

theorem yielded_und {n : Nat} {w0 : World} {φ0 : Gh} {s : St} {a : Act} {m : Mem} (h : Rel n w0 φ0 s a m) {ops : Array Oper} {j d : Nat} (hd : dstOf ops j = some d)
    (hg : s.get (.t d) = some (.t .und)) : yielded ops a.tmps j = none := by
  have h1 : ((ops[j]?).bind (·.dst)) = some d := by
    unfold dstOf at hd
    split at hd
    · rename_i o e; rw [e]; exact hd
    · cases hd
  have h2 : a.tmps.getD d undef = undef := h.tm d _ hg
  simp only [yielded, h1, Option.bind_some]
  rw [Array.getD_eq_getD_getElem?] at h2
  cases e : a.tmps[d]? with
  | none => rfl
  | some v => rw [e] at h2; simp at h2; rw [h2]; rfl

/-- An operator of the language, evaluated. -/
def OutG {R : Type} (P : Program) (s : St) (op : Op) (d : Option Nat) (κ : Ke R) (r : R) : Prop :=
  ∃ δ, κ δ = some r ∧ Reads s δ.rd ∧ ∀ n (o : Oper), o.op = op → o.dst = d → (∀ i, d = some i → i < n) → Good P n o δ

def EvOp : Type 1 := {R : Type} → St → Op → Option Nat → Ke R → Option R
def EvOpOk (P : Program) (E : EvOp) : Prop := ∀ {R : Type} {s : St} {op : Op} {d : Option Nat} {κ : Ke R} {r : R}, E s op d κ = some r → OutG P s op d κ r

def skipW : Option Nat → List (Loc × Option LV)
  | none => []
  | some d => [(.t d, some (.t .und))]

def litB (d : Nat) (b : Bool) : Loc × LV := (.t d, .t (.one (.bool b)))

def boolEq : Bool → Bool → Bool
  | true, true => true
  | false, false => true
  | _, _ => false

/-- One side of a guard. -/
def evSide (E : EvOp) {R : Type} (s : St) (o : Oper) (dj : Nat) (want b : Bool) (κ : St → Δ → Option R) : Option R :=
  match boolEq want b with
  | true => E ((.t dj, some (.t (.one (.bool b)))) :: s) o.op o.dst fun δ => κ ((.t dj, some (.t (.one (.bool b)))) :: s) ⟨litB dj b :: δ.rd, δ.wr, δ.new⟩
  | false => κ ((.t dj, some (.t (.one (.bool b)))) :: s) ⟨[litB dj b], skipW o.dst, []⟩

def evAt (E : EvOp) {R : Type} (ops : Array Oper) (s : St) (o : Oper) (κ : St → Δ → Option R) : Option R :=
  match o.guard with
  | none => E s o.op o.dst (κ s)
  | some (j, want) => match dstOf ops j with
    | none => none
    | some dj => match s.getT dj with
      | some .und => κ s ⟨[(.t dj, .t .und)], skipW o.dst, []⟩
      | some (.one (.bool b)) => bif b then evSide E s o dj want true κ else evSide E s o dj want false κ
      | _ => none

theorem boolEq_true {a b : Bool} : boolEq a b = true ↔ a = b := by cases a <;> cases b <;> simp [boolEq]
theorem boolEq_false {a b : Bool} : boolEq a b = false ↔ a = !b := by cases a <;> cases b <;> simp [boolEq]

theorem place_run {P : Program} {n : Nat} {ops : Array Oper} {i : Nat} {o : Oper} (ho : ops[i]? = some o) {δ : Δ} (hg : o.guard = none) (h : Good P n o δ) : Place P n ops i δ := by
  intro w0 φ0 s a m hr hrd hnew Q K hK
  have hw : Region.wanted o (yielded ops a.tmps) = true := by simp only [Region.wanted, hg]
  simp only [wpOp, ho, hw, if_true]
  exact .inl (h w0 φ0 s a m hr hrd hnew K Q hK)

theorem place_side {P : Program} {n : Nat} {ops : Array Oper} {i : Nat} {o : Oper} (ho : ops[i]? = some o) {δ : Δ} {j dj : Nat} {want : Bool} (hg : o.guard = some (j, want)) (hd : dstOf ops j = some dj)
    (h : Good P n o δ) : Place P n ops i ⟨litB dj want :: δ.rd, δ.wr, δ.new⟩ := by
  intro w0 φ0 s a m hr hrd hnew Q K hK
  have hy := yielded_of hr hd (hrd _ List.mem_cons_self)
  have hw : Region.wanted o (yielded ops a.tmps) = true := by simp only [Region.wanted, hg, hy, beq_self_eq_true]
  simp only [wpOp, ho, hw, if_true]
  exact .inl (h w0 φ0 s a m hr (fun p hp => hrd p (List.mem_cons_of_mem _ hp)) hnew K Q hK)

theorem rel_skip {n : Nat} {w0 : World} {φ0 : Gh} {s : St} {a : Act} {m : Mem} (h : Rel n w0 φ0 s a m) {d : Option Nat} (hd : ∀ i, d = some i → i < n) : Rel n w0 φ0 (skipW d ++ s) (a.put d undef) m := by
  cases d with
  | none => exact h
  | some d => exact h.put (v := .und) (hd d rfl) rfl

theorem place_skip {P : Program} {n : Nat} {ops : Array Oper} {i : Nat} {o : Oper} (ho : ops[i]? = some o) {j dj : Nat} {want : Bool} (hg : o.guard = some (j, want)) (hd : dstOf ops j = some dj)
    (hdst : ∀ i, o.dst = some i → i < n) {v : AV} (hv : v = .one (.bool (!want)) ∨ v = .und) : Place P n ops i ⟨[(.t dj, .t v)], skipW o.dst, []⟩ := by
  intro w0 φ0 s a m hr hrd hnew Q K hK
  have hrd0 := hrd _ List.mem_cons_self
  have hw : Region.wanted o (yielded ops a.tmps) = false := by
    rcases hv with rfl | rfl
    · simp only [Region.wanted, hg, yielded_of hr hd hrd0]; cases want <;> rfl
    · simp only [Region.wanted, hg, yielded_und hr hd hrd0]; rfl
  simp only [wpOp, ho, hw, Bool.false_eq_true, if_false]
  exact hK _ m (rel_skip hr hdst)

theorem geq_lit {s : St} {d : Nat} {v : AV} (h : s.get (.t d) = some (.t v)) : Geq s ((.t d, some (.t v)) :: s) := by
  intro l
  by_cases e : Loc.t d = l
  · subst e; rw [St.get_cons_same, h]
  · rw [St.get_cons_ne e]

theorem evAt_ok {P : Program} {E : EvOp} (hE : EvOpOk P E) {R : Type} {n : Nat} {ops : Array Oper} {i : Nat} {o : Oper} (ho : ops[i]? = some o) (hdst : ∀ i, o.dst = some i → i < n) {s : St} {κ : St → Δ → Option R} {r : R}
    (h : evAt E ops s o κ = some r) : ∃ s' δ, κ s' δ = some r ∧ s <:+ s' ∧ Geq s s' ∧ (∀ l, fresh s' l = fresh s l) ∧ Reads s' δ.rd ∧ Place P n ops i δ := by
  unfold evAt at h
  split at h
  · rename_i hg
    obtain ⟨δ, h1, h2, h3⟩ := hE h
    exact ⟨s, δ, h1, List.suffix_refl _, Geq.refl _, fun _ => rfl, h2, place_run ho hg (h3 n o rfl rfl hdst)⟩
  · rename_i j want hg
    split at h
    · cases h
    · rename_i dj hd
      split at h
      · rename_i hu
        exact ⟨s, _, h, List.suffix_refl _, Geq.refl _, fun _ => rfl, fun p hp => by rw [List.mem_singleton.1 hp]; exact St.getT_some.1 hu, place_skip ho hg hd hdst (.inr rfl)⟩
      · rename_i b hb
        have hb := St.getT_some.1 hb
        have key : ∀ b', b = b' → evSide E s o dj want b' κ = some r → ∃ s' δ, κ s' δ = some r ∧ s <:+ s' ∧ Geq s s' ∧ (∀ l, fresh s' l = fresh s l) ∧ Reads s' δ.rd ∧ Place P n ops i δ := by
          intro b' e hs
          subst e
          have hgq := geq_lit hb
          unfold evSide at hs
          split at hs
          · rename_i hw
            have hw := boolEq_true.1 hw
            subst hw
            obtain ⟨δ, h1, h2, h3⟩ := hE hs
            refine ⟨_, _, h1, List.suffix_cons _ _, hgq, fun l => by simp [fresh, LV.men, AV.men, Lf.men], fun p hp => ?_, place_side ho hg hd (h3 n o rfl rfl hdst)⟩
            rcases List.mem_cons.1 hp with rfl | hp
            · exact St.get_cons_same _ _ _
            · exact h2 p hp
          · rename_i hw
            have hw := boolEq_false.1 hw
            refine ⟨_, _, hs, List.suffix_cons _ _, hgq, fun l => by simp [fresh, LV.men, AV.men, Lf.men], fun p hp => ?_, place_skip ho hg hd hdst (.inl ?_)⟩
            · rw [List.mem_singleton.1 hp]; exact St.get_cons_same _ _ _
            · rw [hw]; simp
        cases b with
        | true => exact key true rfl h
        | false => exact key false rfl h
      · cases h

def okD (n : Nat) : Option Nat → Bool
  | none => true
  | some d => Nat.blt d n
theorem okD_ok {n : Nat} {d : Option Nat} (h : okD n d = true) : ∀ i, d = some i → i < n := fun i e => by
  subst e; exact blt_iff.1 h

def evText (E : EvOp) {R : Type} (n : Nat) (ops : Array Oper) : List Oper → St → (St → Option R) → Option R
  | [], s, k => k s
  | o :: os, s, k => match okD n o.dst with
    | true => evAt E ops s o fun s' δ => match δ.new.all (fresh s') with
      | true => evText E n ops os (δ.wr ++ s') k
      | false => none
    | false => none

theorem evText_ok {P : Program} {E : EvOp} (hE : EvOpOk P E) {R : Type} {n : Nat} {ops : Array Oper} : ∀ {os : List Oper} {i : Nat} {s : St} {k : St → Option R} {r : R},
    (∀ j o, os[j]? = some o → ops[i + j]? = some o) → evText E n ops os s k = some r →
    ∃ s', k s' = some r ∧ s <:+ s' ∧ ∀ w0 φ0 a m, Rel n w0 φ0 s a m → ∀ Q : Exit → Act → World → Prop, (∀ a' m', Rel n w0 φ0 s' a' m' → Q .normal a' m'.w) → wpOps P ops Q (List.range' i os.length) a m.w
  | [], i, s, k, r, _, h => ⟨s, h, List.suffix_refl _, fun w0 φ0 a m hr Q hQ => hQ a m hr⟩
  | o :: os, i, s, k, r, hops, h => by
    simp only [evText] at h
    split at h
    · rename_i hok
      obtain ⟨s', δ, h1, hsf, h2, _, h3, h4⟩ := evAt_ok hE (n := n) (hops 0 o rfl) (okD_ok hok) h
      split at h1
      · rename_i hf
        obtain ⟨s'', h5, hsf2, h6⟩ := evText_ok hE (i := i + 1) (fun j o' hj => by
          have := hops (j + 1) o' (by simpa using hj)
          rwa [show i + (j + 1) = i + 1 + j by omega] at this) h1
        refine ⟨s'', h5, hsf.trans ((List.suffix_append _ _).trans hsf2), fun w0 φ0 a m hr Q hQ => ?_⟩
        rw [List.length_cons, List.range'_succ, wpOps_cons]
        exact h4 w0 φ0 s' a m (hr.geq h2) h3 (fun l hl => fresh_live (List.all_eq_true.1 hf l hl)) Q _ fun a' m' hr' => h6 w0 φ0 a' m' hr' Q hQ
      · cases h1
    · cases h

theorem evText_region {P : Program} {E : EvOp} (hE : EvOpOk P E) {R : Type} {n id : Nat} {ops : Array Oper} {s : St} {k : St → Option R} {r : R} (h : evText E n ops ops.toList s k = some r) :
    ∃ s', k s' = some r ∧ s <:+ s' ∧ ∀ w0 φ0 a m, Rel n w0 φ0 s a m → ∀ Q : Exit → Act → World → Prop, (∀ a' m', Rel n w0 φ0 s' a' m' → Q .normal a' m'.w) → (Code.region id ops false).wp P Q a m.w := by
  obtain ⟨s', h1, hsf, h2⟩ := evText_ok hE (i := 0) (fun j o hj => by rw [Nat.zero_add, ← Array.getElem?_toList]; exact hj) h
  refine ⟨s', h1, hsf, fun w0 φ0 a m hr Q hQ => wp_region ?_⟩
  have := h2 w0 φ0 a m hr Q hQ
  rwa [Array.length_toList, ← List.range_eq_range'] at this

end Go.Proofs.Ytlgbhpphfimdbaa.Ev
