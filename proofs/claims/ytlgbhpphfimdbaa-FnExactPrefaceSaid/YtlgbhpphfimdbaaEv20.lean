/- A region's operations in any order that its edges leave. -/
import Derived.Test.YtlgbhpphfimdbaaEv19
namespace Go.Proofs.Ytlgbhpphfimdbaa.Ev
set_option linter.unusedVariables false
set_option linter.unusedSimpArgs false

/-- The state behind those operations that E names. The list is in reverse. -/
def subR (E : Nat → Bool) : List Δ → St → St
  | [], s => s
  | δ :: acc, s => match E acc.length with
    | true => δ.wr ++ subR E acc s
    | false => subR E acc s

def fullR : List Δ → St → St
  | [], s => s
  | δ :: acc, s => δ.wr ++ fullR acc s

theorem subR_full {E : Nat → Bool} {s : St} : ∀ {acc : List Δ}, (∀ i, i < acc.length → E i = true) → subR E acc s = fullR acc s
  | [], _ => rfl
  | δ :: acc, h => by
    simp only [subR, fullR, h acc.length (by simp), subR_full (acc := acc) fun i hi => h i (by simp; omega)]

theorem subR_none {E : Nat → Bool} {s : St} : ∀ {acc : List Δ}, (∀ i, i < acc.length → E i = false) → subR E acc s = s
  | [], _ => rfl
  | δ :: acc, h => by
    simp only [subR, h acc.length (by simp), subR_none (acc := acc) fun i hi => h i (by simp; omega)]

theorem subR_cong {E E' : Nat → Bool} {s : St} : ∀ {acc : List Δ}, (∀ i, i < acc.length → E i = E' i) → subR E acc s = subR E' acc s
  | [], _ => rfl
  | δ :: acc, h => by
    simp only [subR, h acc.length (by simp), subR_cong (acc := acc) fun i hi => h i (by simp; omega)]

def inW (wr : List (Loc × Option LV)) (l : Loc) : Bool := wr.any fun w => w.1.eqb l
def menW (wr : List (Loc × Option LV)) (l : Loc) : Bool := !(fresh wr l)

theorem get_app {s : St} {l : Loc} : ∀ {wr : List (Loc × Option LV)}, inW wr l = false → St.get (wr ++ s) l = s.get l
  | [], _ => rfl
  | (l', v) :: wr, h => by
    simp only [inW, List.any_cons, Bool.or_eq_false_iff] at h
    rw [List.cons_append, St.get_cons_ne (Loc.eqb_false.1 h.1)]
    exact get_app h.2

theorem get_app_in {s s' : St} {l : Loc} : ∀ {wr : List (Loc × Option LV)}, inW wr l = true → St.get (wr ++ s) l = St.get (wr ++ s') l
  | [], h => by cases h
  | (l', v) :: wr, h => by
    by_cases e : l' = l
    · subst e; rw [List.cons_append, List.cons_append, St.get_cons_same, St.get_cons_same]
    · rw [List.cons_append, List.cons_append, St.get_cons_ne e, St.get_cons_ne e]
      refine get_app_in ?_
      simp only [inW, List.any_cons, Bool.or_eq_true] at h
      exact h.resolve_left fun h1 => e (Loc.eqb_iff.1 h1)

theorem fresh_app {a b : St} {l : Loc} : fresh (a ++ b) l = (fresh a l && fresh b l) := by simp only [fresh, List.all_append]

/-- Two operations that may come in either order. -/
def indep (a b : Δ) : Bool :=
  a.wr.all (fun w => !(inW b.wr w.1) && !(b.rd.any fun p => p.1.eqb w.1)) && b.wr.all (fun w => !(a.rd.any fun p => p.1.eqb w.1)) && a.new.all (fresh b.wr) && b.new.all (fresh a.wr)

structure Indep (a b : Δ) : Prop where
  ww : ∀ l, inW a.wr l = true → inW b.wr l = false
  wr : ∀ p ∈ b.rd, inW a.wr p.1 = false
  rw : ∀ p ∈ a.rd, inW b.wr p.1 = false
  na : ∀ l ∈ a.new, fresh b.wr l = true
  nb : ∀ l ∈ b.new, fresh a.wr l = true

theorem inW_mem {wr : List (Loc × Option LV)} {l : Loc} (h : inW wr l = true) : ∃ w ∈ wr, w.1 = l := by
  obtain ⟨w, hw, e⟩ := List.any_eq_true.1 h
  exact ⟨w, hw, Loc.eqb_iff.1 e⟩

theorem indep_ok {a b : Δ} (h : indep a b = true) : Indep a b := by
  simp only [indep, Bool.and_eq_true] at h
  obtain ⟨⟨⟨h1, h2⟩, h3⟩, h4⟩ := h
  refine ⟨fun l hl => ?_, fun p hp => ?_, fun p hp => ?_, fun l hl => List.all_eq_true.1 h3 l hl, fun l hl => List.all_eq_true.1 h4 l hl⟩
  · obtain ⟨w, hw, rfl⟩ := inW_mem hl
    have := List.all_eq_true.1 h1 w hw
    simp only [Bool.and_eq_true, Bool.not_eq_true'] at this
    exact this.1
  · cases e : inW a.wr p.1 with
    | false => rfl
    | true =>
      obtain ⟨w, hw, hl⟩ := inW_mem e
      have := List.all_eq_true.1 h1 w hw
      simp only [Bool.and_eq_true, Bool.not_eq_true'] at this
      have := List.any_eq_false.1 this.2 p hp
      rw [hl] at this
      exact absurd (Loc.eqb_iff.2 rfl) this
  · cases e : inW b.wr p.1 with
    | false => rfl
    | true =>
      obtain ⟨w, hw, hl⟩ := inW_mem e
      have := List.all_eq_true.1 h2 w hw
      simp only [Bool.not_eq_true'] at this
      have := List.any_eq_false.1 this p hp
      rw [hl] at this
      exact absurd (Loc.eqb_iff.2 rfl) this

/-- Numbers of those that must come ahead, as bits. -/
def maskOf (ms : List Nat) (es : List Edge) : Nat := es.foldl (fun acc e => match Region.binds .any e with
  | true => acc ||| (1 <<< e.on) ||| ms.getD e.on 0
  | false => acc) 0

def masks : List Oper → List Nat → List Nat
  | [], ms => ms
  | o :: os, ms => masks os (ms ++ [maskOf ms o.after.toList])

def backB (j : Nat) (es : List Edge) : Bool := es.all fun e => match Region.binds .any e with
  | true => Nat.blt e.on j
  | false => true

/-- Each pair that no edge keeps in order is independent. The list is in reverse. -/
def pairB (δ : Δ) (mask : Nat) : List Δ → Bool
  | [] => true
  | δi :: acc => (Nat.testBit mask acc.length || indep δi δ) && pairB δ mask acc

def pairsB (ms : List Nat) : List Δ → Bool
  | [] => true
  | δ :: acc => pairB δ (ms.getD acc.length 0) acc && pairsB ms acc

def evDraw (E : EvOp) {R : Type} (n : Nat) (ops : Array Oper) : List Oper → List Δ → St → (List Δ → St → Option R) → Option R
  | [], acc, s, k => k acc s
  | o :: os, acc, s, k => match okD n o.dst with
    | true => evAt E ops s o fun s' δ => match δ.new.all (fresh s') with
      | true => evDraw E n ops os (δ :: acc) (δ.wr ++ s') k
      | false => none
    | false => none

/-- What is known of a region's operations. -/
def Facts (P : Program) (n : Nat) (ops : Array Oper) (s0 : St) : List Δ → Prop
  | [] => True
  | δ :: acc => Place P n ops acc.length δ ∧ Reads (fullR acc s0) δ.rd ∧ (∀ l ∈ δ.new, fresh (fullR acc s0) l = true) ∧ Facts P n ops s0 acc

theorem evDraw_ok {P : Program} {E : EvOp} (hE : EvOpOk P E) {R : Type} {n : Nat} {ops : Array Oper} {s0 : St} : ∀ {os : List Oper} {acc : List Δ} {s : St} {k : List Δ → St → Option R} {r : R},
    (∀ j o, os[j]? = some o → ops[acc.length + j]? = some o) → Facts P n ops s0 acc → Geq (fullR acc s0) s → (∀ l, fresh s l = fresh (fullR acc s0) l) → evDraw E n ops os acc s k = some r →
    ∃ acc' s', k acc' s' = some r ∧ s <:+ s' ∧ acc'.length = acc.length + os.length ∧ Facts P n ops s0 acc' ∧ Geq (fullR acc' s0) s'
  | [], acc, s, k, r, _, hF, hg, hfr, h => ⟨acc, s, h, List.suffix_refl _, rfl, hF, hg⟩
  | o :: os, acc, s, k, r, hops, hF, hg, hfr, h => by
    simp only [evDraw] at h
    split at h
    · rename_i hok
      obtain ⟨s', δ, h1, hsf, h2, h2f, h3, h4⟩ := evAt_ok hE (n := n) (hops 0 o rfl) (okD_ok hok) h
      split at h1
      · rename_i hf
        have hg' : Geq (fullR acc s0) s' := hg.trans h2
        obtain ⟨acc', s'', h5, hsf2, h6, h7, h8⟩ := evDraw_ok hE (s0 := s0) (acc := δ :: acc) (fun j o' hj => by
          have := hops (j + 1) o' (by simpa using hj)
          rw [List.length_cons]
          rwa [show acc.length + (j + 1) = acc.length + 1 + j by omega] at this)
          ⟨h4, h3.geq hg'.symm, fun l hl => by rw [← hfr, ← h2f]; exact List.all_eq_true.1 hf l hl, hF⟩ (hg'.app δ.wr) (fun l => by rw [fullR, fresh_app, fresh_app, h2f, hfr]) h1
        exact ⟨acc', s'', h5, hsf.trans ((List.suffix_append _ _).trans hsf2), by rw [h6]; simp; omega, h7, h8⟩
      · cases h1
    · cases h

/-- What is done holds what must come ahead of it. -/
def Closed (ops : Array Oper) (E : Nat → Bool) : Prop := ∀ j o, ops[j]? = some o → E j = true → ∀ e ∈ o.after, Region.binds .any e = true → E e.on = true

theorem maskOf_bit {ms : List Nat} {i : Nat} : ∀ {es : List Edge} {acc : Nat}, Nat.testBit (es.foldl (fun acc e => match Region.binds .any e with
    | true => acc ||| (1 <<< e.on) ||| ms.getD e.on 0
    | false => acc) acc) i = true → Nat.testBit acc i = true ∨ ∃ e ∈ es, Region.binds .any e = true ∧ (i = e.on ∨ Nat.testBit (ms.getD e.on 0) i = true)
  | [], acc, h => .inl h
  | e :: es, acc, h => by
    rw [List.foldl_cons] at h
    rcases maskOf_bit h with h | ⟨e', he, hb, h⟩
    · cases hb : Region.binds .any e with
      | false => rw [hb] at h; exact .inl h
      | true =>
        rw [hb] at h
        simp only [Nat.testBit_or, Bool.or_eq_true] at h
        rcases h with (h | h) | h
        · exact .inl h
        · refine .inr ⟨e, List.mem_cons_self, hb, .inl ?_⟩
          rw [Nat.one_shiftLeft, Nat.testBit_two_pow] at h
          exact (of_decide_eq_true h).symm
        · exact .inr ⟨e, List.mem_cons_self, hb, .inr h⟩
    · exact .inr ⟨e', List.mem_cons_of_mem _ he, hb, h⟩

theorem masks_len : ∀ (os : List Oper) (ms : List Nat), (masks os ms).length = ms.length + os.length
  | [], _ => rfl
  | o :: os, ms => by rw [masks, masks_len]; simp; omega

theorem masks_old : ∀ (os : List Oper) (ms : List Nat) (i : Nat), i < ms.length → (masks os ms).getD i 0 = ms.getD i 0
  | [], _, _, _ => rfl
  | o :: os, ms, i, h => by
    rw [masks, masks_old os _ i (by simp; omega)]
    simp only [List.getD_eq_getElem?_getD, List.getElem?_append_left h]

theorem masks_bit {ops : Array Oper} {E : Nat → Bool} (hc : Closed ops E) : ∀ {os : List Oper} {ms : List Nat}, (∀ j o, os[j]? = some o → ops[ms.length + j]? = some o) → (∀ j o, os[j]? = some o → backB (ms.length + j) o.after.toList = true) →
    (∀ j, j < ms.length → ∀ i, Nat.testBit (ms.getD j 0) i = true → E j = true → E i = true) → ∀ j, j < ms.length + os.length → ∀ i, Nat.testBit ((masks os ms).getD j 0) i = true → E j = true → E i = true
  | [], ms, _, _, h, j, hj, i, hb, he => h j (by simpa using hj) i hb he
  | o :: os, ms, hops, hback, h, j, hj, i, hb, he => by
    refine masks_bit hc (os := os) (ms := ms ++ [maskOf ms o.after.toList]) (fun j o' hj => ?_) (fun j o' hj => ?_) ?_ j (by simp at hj ⊢; omega) i hb he
    · have := hops (j + 1) o' (by simpa using hj)
      simp only [List.length_append, List.length_singleton]
      rwa [show ms.length + (j + 1) = ms.length + 1 + j by omega] at this
    · have := hback (j + 1) o' (by simpa using hj)
      simp only [List.length_append, List.length_singleton]
      rwa [show ms.length + (j + 1) = ms.length + 1 + j by omega] at this
    · intro j hj i hb he
      simp only [List.length_append, List.length_singleton] at hj
      by_cases hl : j < ms.length
      · simp only [List.getD_eq_getElem?_getD, List.getElem?_append_left hl] at hb
        exact h j hl i (by simpa [List.getD_eq_getElem?_getD] using hb) he
      · have hj' : j = ms.length := by omega
        subst hj'
        simp only [List.getD_eq_getElem?_getD, List.getElem?_concat_length, Option.getD_some] at hb
        have h0 := hops 0 o rfl
        rw [Nat.add_zero] at h0
        have hbk := hback 0 o rfl
        rcases maskOf_bit hb with hb | ⟨e, hem, hbi, hb⟩
        · simp at hb
        · have heE := hc ms.length o h0 he e (Array.mem_toList_iff.1 hem) hbi
          have hlt := List.all_eq_true.1 hbk e hem
          simp only [hbi] at hlt
          have hlt := blt_iff.1 hlt
          rcases hb with rfl | hb
          · exact heE
          · exact h e.on hlt i hb heE

theorem pairB_get {δ : Δ} {mask : Nat} : ∀ {acc : List Δ}, pairB δ mask acc = true → ∀ {pre : List Δ} {δi : Δ} {suf : List Δ}, acc = pre ++ δi :: suf → Nat.testBit mask suf.length = true ∨ Indep δi δ
  | [], _, pre, δi, suf, e => by simp at e
  | δ0 :: acc, h, pre, δi, suf, e => by
    simp only [pairB, Bool.and_eq_true, Bool.or_eq_true] at h
    cases pre with
    | nil =>
      simp only [List.nil_append] at e
      injection e with e1 e2; subst e1; subst e2
      exact h.1.imp id indep_ok
    | cons x pre =>
      simp only [List.cons_append] at e
      injection e with e1 e2; subst e1; subst e2
      exact pairB_get h.2 rfl

/-- Ahead of an operation: what it reads is there. -/
theorem below {ms : List Nat} {E : Nat → Bool} {s0 : St} {δi : Δ} {i : Nat} (hE : ∀ j, j < i → Nat.testBit (ms.getD i 0) j = true → E j = true) : ∀ {acc : List Δ}, acc.length ≤ i → pairB δi (ms.getD i 0) acc = true →
    (∀ p ∈ δi.rd, St.get (subR E acc s0) p.1 = St.get (fullR acc s0) p.1) ∧ ∀ l, fresh (fullR acc s0) l = true → fresh (subR E acc s0) l = true
  | [], _, _ => ⟨fun _ _ => rfl, fun _ h => h⟩
  | δ :: acc, hl, h => by
    simp only [pairB, Bool.and_eq_true, Bool.or_eq_true] at h
    have hl' : acc.length < i := by simp at hl; omega
    obtain ⟨ih1, ih2⟩ := below (s0 := s0) hE (acc := acc) (by omega) h.2
    simp only [subR, fullR]
    cases e : E acc.length with
    | true =>
      refine ⟨fun p hp => ?_, fun l hl => ?_⟩
      · cases ein : inW δ.wr p.1 with
        | true => exact get_app_in ein
        | false => rw [get_app ein, get_app ein]; exact ih1 p hp
      · simp only [fresh_app, Bool.and_eq_true] at hl ⊢
        exact ⟨hl.1, ih2 l hl.2⟩
    | false =>
      have hin : Indep δ δi := by
        rcases h.1 with h1 | h1
        · rw [hE _ hl' h1] at e; cases e
        · exact indep_ok h1
      refine ⟨fun p hp => ?_, fun l hl => ?_⟩
      · rw [get_app (hin.wr p hp)]; exact ih1 p hp
      · simp only [fresh_app, Bool.and_eq_true] at hl
        exact ih2 l hl.2

def with1 (E : Nat → Bool) (i : Nat) : Nat → Bool := fun j => Nat.beq i j || E j

theorem with1_ne {E : Nat → Bool} {i j : Nat} (h : i ≠ j) : with1 E i j = E j := by
  have : Nat.beq i j = false := by
    cases e : Nat.beq i j with
    | false => rfl
    | true => exact absurd (Nat.eq_of_beq_eq_true e) h
  simp only [with1, this, Bool.false_or]
theorem with1_eq (E : Nat → Bool) (i : Nat) : with1 E i i = true := by simp [with1]

theorem geq_swap {a b : List (Loc × Option LV)} (s : St) (h : ∀ l, inW a l = true → inW b l = false) : Geq (a ++ (b ++ s)) (b ++ (a ++ s)) := by
  intro l
  cases ha : inW a l with
  | true =>
    rw [get_app (h l ha)]
    exact get_app_in ha
  | false =>
    rw [get_app ha]
    cases hb : inW b l with
    | true => exact get_app_in hb
    | false => rw [get_app hb, get_app hb, get_app ha]

/-- An operation whose turn may come: it is right there, and the state behind it is as if it came in its turn. -/
theorem turn {P : Program} {n : Nat} {ops : Array Oper} {ms : List Nat} {E : Nat → Bool} {s0 : St} {i : Nat} (hEi : E i = false) (hup : ∀ j, j < i → Nat.testBit (ms.getD i 0) j = true → E j = true)
    (hcl : ∀ j, j < ms.length → Nat.testBit (ms.getD j 0) i = true → E j = true → E i = true) : ∀ {acc : List Δ}, acc.length ≤ ms.length → i < acc.length → pairsB ms acc = true → Facts P n ops s0 acc →
    ∃ δ pre suf, acc = pre ++ δ :: suf ∧ suf.length = i ∧ Place P n ops i δ ∧ Reads (subR E acc s0) δ.rd ∧ (∀ l ∈ δ.new, fresh (subR E acc s0) l = true) ∧ Geq (δ.wr ++ subR E acc s0) (subR (with1 E i) acc s0)
  | [], _, h, _, _ => by simp at h
  | δ :: acc, hlen, h, hp, hF => by
    simp only [pairsB, Bool.and_eq_true] at hp
    obtain ⟨hF1, hF2, hF3, hF4⟩ := hF
    by_cases hi : i = acc.length
    · subst hi
      obtain ⟨b1, b2⟩ := below (s0 := s0) hup (Nat.le_refl _) hp.1
      refine ⟨δ, [], acc, rfl, rfl, hF1, fun p hp => ?_, fun l hl => ?_, ?_⟩
      · simp only [subR, hEi]; rw [b1 p hp]; exact hF2 p hp
      · simp only [subR, hEi]; exact b2 l (hF3 l hl)
      · simp only [subR, hEi, with1_eq]
        rw [subR_cong (E := with1 E acc.length) (E' := E) fun j hj => with1_ne (by omega)]
        exact Geq.refl _
    · have hlt : i < acc.length := by simp at h; omega
      have hlen' : acc.length < ms.length := by simp at hlen; omega
      obtain ⟨δi, pre, suf, e1, e2, h1, h2, h3, h4⟩ := turn hEi hup hcl (acc := acc) (s0 := s0) (by omega) hlt hp.2 hF4
      have hw : with1 E i acc.length = E acc.length := with1_ne hi
      refine ⟨δi, δ :: pre, suf, by rw [e1]; rfl, e2, h1, ?_⟩
      cases e : E acc.length with
      | false =>
        simp only [subR, e, hw]
        exact ⟨h2, h3, h4⟩
      | true =>
        have hin : Indep δi δ := by
          rcases pairB_get hp.1 e1 with hb | hb
          · rw [e2] at hb
            rw [hcl _ hlen' hb e] at hEi; cases hEi
          · exact hb
        simp only [subR, e, hw]
        refine ⟨fun p hp => ?_, fun l hl => ?_, ?_⟩
        · rw [get_app (hin.rw p hp)]; exact h2 p hp
        · rw [fresh_app, Bool.and_eq_true]; exact ⟨hin.na l hl, h3 l hl⟩
        · exact (geq_swap _ hin.ww).trans (h4.app _)

/-- How many are left. -/
def left (E : Nat → Bool) : Nat → Nat
  | 0 => 0
  | n + 1 => left E n + (match E n with
    | true => 0
    | false => 1)

theorem left_zero {E : Nat → Bool} : ∀ {n : Nat}, left E n = 0 → ∀ i, i < n → E i = true
  | n + 1, h, i, hi => by
    simp only [left] at h
    cases e : E n with
    | false => rw [e] at h; simp at h
    | true =>
      rw [e] at h
      by_cases hin : i = n
      · subst hin; exact e
      · exact left_zero (n := n) (by omega) i (by omega)

theorem left_le {E E' : Nat → Bool} (h : ∀ i, E i = true → E' i = true) : ∀ n, left E' n ≤ left E n
  | 0 => Nat.le_refl _
  | n + 1 => by
    have := left_le h n
    simp only [left]
    cases e : E n with
    | true => rw [h n e]; simp; exact this
    | false => cases E' n <;> simp <;> omega

theorem left_lt {E E' : Nat → Bool} (h : ∀ i, E i = true → E' i = true) {i : Nat} (he : E i = false) (he' : E' i = true) : ∀ {n : Nat}, i < n → left E' n < left E n
  | n + 1, hi => by
    simp only [left]
    by_cases hin : i = n
    · subst hin; rw [he, he']; have := left_le h i; simp; omega
    · have := left_lt h he he' (n := n) (by omega)
      cases e : E n with
      | true => rw [h n e]; simp; exact this
      | false => cases E' n <;> simp <;> omega

theorem with1_le {E : Nat → Bool} {i j : Nat} (h : E j = true) : with1 E i j = true := by simp [with1, h]

theorem draw_any {P : Program} {n : Nat} {ops : Array Oper} {ms : List Nat} (hms : ms.length = ops.size) {s0 : St} {acc : List Δ} (hacc : acc.length = ops.size) (hp : pairsB ms acc = true) (hF : Facts P n ops s0 acc)
    (hback : ∀ j o, ops[j]? = some o → backB j o.after.toList = true) (hbit : ∀ E, Closed ops E → ∀ j, j < ms.length → ∀ i, Nat.testBit (ms.getD j 0) i = true → E j = true → E i = true)
    {w0 : World} {φ0 : Gh} {Q : Exit → Act → World → Prop} (hQ : ∀ a' m', Rel n w0 φ0 (fullR acc s0) a' m' → Q .normal a' m'.w) : ∀ (fuel : Nat) (listed : Array Bool) (E : Nat → Bool) (a : Act) (m : Mem),
      listed.size = ops.size → (∀ i, i < ops.size → listed.getD i false = E i) → (∀ i, E i = true → i < ops.size) → Closed ops E → left E ops.size ≤ fuel → Rel n w0 φ0 (subR E acc s0) a m → wpAny P .any ops Q fuel listed a m.w := by
  have hdone : ∀ E a m, Closed ops E → (∀ i, i < ops.size → E i = true) → Rel n w0 φ0 (subR E acc s0) a m → Q .normal a m.w := fun E a m hc hall hr => by
    rw [subR_full fun i hi => hall i (by omega)] at hr; exact hQ a m hr
  have hready : ∀ (listed : Array Bool) (E : Nat → Bool), listed.size = ops.size → (∀ i, i < ops.size → listed.getD i false = E i) → Region.ready .any ops listed = [] → ∀ i, i < ops.size → E i = true := by
    intro listed E hsz hE hr i
    induction i using Nat.strongRecOn with
    | _ i ih =>
      intro hi
      cases e : E i with
      | true => rfl
      | false =>
        exfalso
        have : i ∈ Region.ready .any ops listed := by
          refine mem_ready.2 ⟨?_, ops[i], Array.getElem?_eq_getElem hi, fun ed hed hb => ?_⟩
          · have h1 := hE i hi
            rw [e] at h1
            have hl : i < listed.size := by omega
            simp only [Array.getD_eq_getD_getElem?, Array.getElem?_eq_getElem hl, Option.getD_some] at h1 ⊢
            exact h1
          · have hlt := List.all_eq_true.1 (hback i _ (Array.getElem?_eq_getElem hi)) ed (Array.mem_toList_iff.2 hed)
            simp only [hb] at hlt
            have hlt := blt_iff.1 hlt
            rw [hE ed.on (by omega)]
            exact ih ed.on hlt (by omega)
        rw [hr] at this
        cases this
  intro fuel
  induction fuel with
  | zero =>
    intro listed E a m hsz hE hEs hc hl hr
    have hall := left_zero (Nat.le_zero.1 hl)
    refine ⟨?_, hdone E a m hc hall hr⟩
    cases hrd : Region.ready .any ops listed with
    | nil => rfl
    | cons i rest =>
      have hi : i ∈ Region.ready .any ops listed := by rw [hrd]; exact List.mem_cons_self
      obtain ⟨h0, o, ho, _⟩ := mem_ready.1 hi
      have hlt := (Array.getElem?_eq_some_iff.1 ho).1
      have h1 := hE i hlt
      rw [hall i hlt] at h1
      have hl : i < listed.size := by omega
      simp only [Array.getD_eq_getD_getElem?, Array.getElem?_eq_getElem hl, Option.getD_some] at h0 h1
      rw [h0] at h1; cases h1
  | succ fuel ih =>
    intro listed E a m hsz hE hEs hc hl hr
    refine ⟨fun h => hdone E a m hc (hready listed E hsz hE h) hr, fun i hi => ?_⟩
    obtain ⟨h0, o, ho, hpre⟩ := mem_ready.1 hi
    have hlt := (Array.getElem?_eq_some_iff.1 ho).1
    have hls : i < listed.size := by omega
    have hEi : E i = false := by
      rw [← hE i hlt]
      simp only [Array.getD_eq_getD_getElem?, Array.getElem?_eq_getElem hls, Option.getD_some] at h0 ⊢
      exact h0
    have hc1 : Closed ops (with1 E i) := by
      intro j o' hj he e hem hb
      by_cases hij : i = j
      · subst hij
        rw [ho] at hj; injection hj with hj; subst hj
        have hlt' := List.all_eq_true.1 (hback i _ ho) e (Array.mem_toList_iff.2 hem)
        simp only [hb] at hlt'
        have hlt' := blt_iff.1 hlt'
        refine with1_le ?_
        rw [← hE e.on (by omega)]
        exact hpre e hem hb
      · rw [with1_ne hij] at he
        exact with1_le (hc j o' hj he e hem hb)
    obtain ⟨δ, pre, suf, e1, e2, h1, h2, h3, h4⟩ := turn (s0 := s0) (P := P) (n := n) (ops := ops) (ms := ms) (acc := acc) hEi
      (fun j hj hb => by
        have := hbit _ hc1 i (by omega) j hb (with1_eq E i)
        rwa [with1_ne (by omega)] at this)
      (fun j hj hb he => hbit _ hc j hj i hb he) (by omega) (by omega) hp hF
    refine h1 w0 φ0 _ a m hr h2 (fun l hl => fresh_live (h3 l hl)) Q _ fun a' m' hr' => ?_
    refine ih (listed.setIfInBounds i true) (with1 E i) a' m' (by simp [hsz]) (fun j hj => ?_) (fun j hj => ?_) hc1 ?_ (hr'.geq h4)
    · by_cases hij : i = j
      · subst hij; rw [with1_eq]; simp [hls]
      · rw [with1_ne hij, getD_set_ne false hij]; exact hE j hj
    · by_cases hij : i = j
      · omega
      · rw [with1_ne hij] at hj; exact hEs j hj
    · have := left_lt (E := E) (E' := with1 E i) (fun j hj => with1_le hj) hEi (with1_eq E i) hlt
      omega

def backAll : List Oper → Nat → Bool
  | [], _ => true
  | o :: os, j => backB j o.after.toList && backAll os (j + 1)

theorem backAll_ok : ∀ {os : List Oper} {j : Nat}, backAll os j = true → ∀ i o, os[i]? = some o → backB (j + i) o.after.toList = true
  | [], _, _, i, o, h => by simp at h
  | o :: os, j, hb, i, o', h => by
    simp only [backAll, Bool.and_eq_true] at hb
    cases i with
    | zero => simp at h; subst h; exact hb.1
    | succ i =>
      have := backAll_ok hb.2 i o' (by simpa using h)
      rwa [show j + 1 + i = j + (i + 1) by omega] at this

/-- A region whose order is drawn. -/
def evDrawn (E : EvOp) {R : Type} (n : Nat) (ops : Array Oper) (s : St) (k : St → Option R) : Option R :=
  match backAll ops.toList 0 with
  | true => evDraw E n ops ops.toList [] s fun acc s' => match pairsB (masks ops.toList []) acc with
    | true => k s'
    | false => none
  | false => none

theorem Rel.drawn {n : Nat} {w0 : World} {φ0 : Gh} {s : St} {a : Act} {m : Mem} (h : Rel n w0 φ0 s a m) (i : Nat) : Rel n w0 φ0 s a { m with w := { m.w with drawn := i } } := by
  have hX : Ext s m s { m with w := { m.w with drawn := i } } (Live s) :=
    ⟨fun _ h _ => ⟨rfl, h⟩, fun id r' _ hr => ⟨r', hr, rfl, rfl, rfl, Nat.le_refl _, fun _ _ _ _ hc => hc⟩, fun b c' _ hc => ⟨c', hc, rfl⟩, fun q i _ hi => hi⟩
  refine h.change (fun _ => rfl) hX (fun id r hr => ?_) (fun b c hc => ?_) (fun _ h _ => ⟨rfl, h⟩) (Nat.le_refl _) rfl rfl rfl (fun id r _ _ hg => ⟨⟨r, hg⟩, rfl⟩) (fun b c _ _ hg => ⟨⟨c, hg⟩, rfl⟩)
  · exact (h.rw id r hr).move (fun _ _ hb _ => ⟨rfl, hb⟩) (fun _ h _ => ⟨rfl, h⟩)
  · obtain ⟨cs, h1, h2, h3, h4⟩ := h.bx b c hc
    exact ⟨cs, All2.imp (fun l hl b' hb => hb.ext (hX.sub fun q hq => ⟨.b b, .b c, hc, List.mem_flatMap.2 ⟨l, hl, hq⟩⟩)) h1, h2, h3, h4⟩

theorem evDrawn_region {P : Program} (hm : P.follows .mixedOrders = true) {E : EvOp} (hE : EvOpOk P E) {R : Type} {n id : Nat} {ops : Array Oper} {s : St} {k : St → Option R} {r : R} (h : evDrawn E n ops s k = some r) :
    ∃ s', k s' = some r ∧ s <:+ s' ∧ ∀ w0 φ0 a m, Rel n w0 φ0 s a m → ∀ Q : Exit → Act → World → Prop, (∀ a' m', Rel n w0 φ0 s' a' m' → Q .normal a' m'.w) → (Code.region id ops true).wp P Q a m.w := by
  unfold evDrawn at h
  split at h
  · rename_i hb
    obtain ⟨acc, s', h1, hsf, h2, h3, h4⟩ := evDraw_ok hE (s0 := s) (acc := []) (fun j o hj => by rw [List.length_nil, Nat.zero_add, ← Array.getElem?_toList]; exact hj) trivial (Geq.refl _) (fun _ => rfl) h
    split at h1
    · rename_i hp
      refine ⟨s', h1, hsf, fun w0 φ0 a m hr Q hQ => wp_region_any hm ?_⟩
      have hml : (masks ops.toList []).length = ops.size := by rw [masks_len]; simp
      have hbk : ∀ j o, ops[j]? = some o → backB j o.after.toList = true := fun j o hj => by
        have := backAll_ok hb j o (by rw [Array.getElem?_toList]; exact hj)
        rwa [Nat.zero_add] at this
      refine draw_any (n := n) (s0 := s) (acc := acc) hml (by rw [h2]; simp) hp h3 hbk (fun E hc j hj i hbi he => ?_) (w0 := w0) (φ0 := φ0) (fun a' m' hr' => hQ a' m' (hr'.geq h4)) ops.size _ (fun _ => false) a { m with w := { m.w with drawn := m.w.drawn + 1 } } (by simp) (fun i hi => by simp [Array.getElem?_replicate, hi]) (fun i hi => by cases hi) (fun j o hj he => by cases he) ?_ ?_
      · refine masks_bit hc (os := ops.toList) (ms := []) (fun j o hj => ?_) (fun j o hj => ?_) (fun j hj => by simp at hj) j (by rw [masks_len] at hj; exact hj) i hbi he
        · rw [List.length_nil, Nat.zero_add, ← Array.getElem?_toList]; exact hj
        · rw [List.length_nil, Nat.zero_add]; exact hbk j o (by rw [← Array.getElem?_toList]; exact hj)
      · have : ∀ k, left (fun _ => false) k = k := fun k => by induction k with
          | zero => rfl
          | succ k ih => simp only [left, ih]
        rw [this]; exact Nat.le_refl _
      · rw [subR_none fun i _ => rfl]
        exact hr.drawn _
    · cases h1
  · cases h

end Go.Proofs.Ytlgbhpphfimdbaa.Ev
