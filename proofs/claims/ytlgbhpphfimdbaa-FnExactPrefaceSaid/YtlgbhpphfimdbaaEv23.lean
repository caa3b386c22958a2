/- A function's code, evaluated. -/
import Derived.Test.YtlgbhpphfimdbaaEv22
import Derived.LoopN
namespace Go.Proofs.Ytlgbhpphfimdbaa.Ev
set_option linter.unusedVariables false
set_option linter.unusedSimpArgs false

/-- A loop, n rounds at most: a round goes on (inl) or is the last (inr). -/
def loopN {α β : Type} (f : α → Option (α ⊕ β)) : Nat → α → Option β
  | 0, _ => none
  | n + 1, x => match f x with
    | some (.inl y) => loopN f n y
    | some (.inr y) => some y
    | none => none

theorem loopN_mono {α β : Type} {f : α → Option (α ⊕ β)} : ∀ {n : Nat} {x : α} {y : β}, loopN f n x = some y → ∀ m, n ≤ m → loopN f m x = some y
  | 0, _, _, h, _, _ => by cases h
  | n + 1, x, y, h, m, hm => by
    obtain ⟨k, rfl⟩ : ∃ k, m = k + 1 := ⟨m - 1, by omega⟩
    simp only [loopN] at h ⊢
    split at h
    · exact loopN_mono h k (by omega)
    · exact h
    · cases h

open Classical in
/-- A loop. -/
noncomputable def loopO {α β : Type} (f : α → Option (α ⊕ β)) (x : α) : Option β :=
  if h : ∃ y n, loopN f n x = some y then some h.choose else none

theorem loopO_spec {α β : Type} {f : α → Option (α ⊕ β)} {x : α} {y : β} (h : loopO f x = some y) : ∃ n, loopN f n x = some y := by
  unfold loopO at h
  split at h
  · rename_i hh; injection h with h; rw [← h]; exact hh.choose_spec
  · cases h

theorem loopO_of {α β : Type} {f : α → Option (α ⊕ β)} {x : α} {y : β} {n : Nat} (h : loopN f n x = some y) : loopO f x = some y := by
  have hh : ∃ y n, loopN f n x = some y := ⟨y, n, h⟩
  unfold loopO
  rw [dif_pos hh]
  obtain ⟨k, hk⟩ := hh.choose_spec
  have h1 := loopN_mono h (max n k) (Nat.le_max_left _ _)
  have h2 := loopN_mono hk (max n k) (Nat.le_max_right _ _)
  rw [h1] at h2
  exact h2.symm

theorem loopO_eq {α β : Type} (f : α → Option (α ⊕ β)) (x : α) : loopO f x = match f x with
    | some (.inl y) => loopO f y
    | some (.inr y) => some y
    | none => none := by
  cases e : f x with
  | none =>
    cases h : loopO f x with
    | none => rfl
    | some y =>
      obtain ⟨n, hn⟩ := loopO_spec h
      cases n with
      | zero => cases hn
      | succ n => simp only [loopN, e] at hn; cases hn
  | some z =>
    cases z with
    | inr y => exact loopO_of (n := 1) (by simp only [loopN, e])
    | inl y =>
      show loopO f x = loopO f y
      cases h : loopO f y with
      | some z =>
        obtain ⟨n, hn⟩ := loopO_spec h
        exact loopO_of (n := n + 1) (by simp only [loopN, e]; exact hn)
      | none =>
        cases h' : loopO f x with
        | none => rfl
        | some z =>
          obtain ⟨n, hn⟩ := loopO_spec h'
          cases n with
          | zero => cases hn
          | succ n =>
            simp only [loopN, e] at hn
            rw [loopO_of hn] at h; cases h

inductive Ex where
  | normal
  | exit (id : Nat)
  | ret

def Ex.to : Ex → Exit
  | .normal => .normal
  | .exit id => .exit id
  | .ret => .ret

/-- What is told of a place where paths meet: its pattern, what is forgotten there, and whether all paths meet there. -/
structure Jn where
  its : List It
  dead : List Loc
  all : Bool

def bindO {A B : Type} (o : Option A) (f : A → Option B) : Option B := match o with
  | some x => f x
  | none => none
def mapO {A B : Type} (f : A → B) (o : Option A) : Option B := match o with
  | some x => some (f x)
  | none => none
def bindS {A B : Type} (o : Option (A ⊕ B)) (f : A → Option B) : Option B := match o with
  | some (.inl x) => f x
  | some (.inr y) => some y
  | none => none

/-- Out of a block. -/
def leave (id : Nat) : Ex → Ex
  | .exit i => match Nat.beq i id with
    | true => .normal
    | false => .exit i
  | e => e

/-- Where paths meet: x runs up to there, g goes on. -/
noncomputable def meet {R : Type} (j : Jn) (s : St) (f : (R' : Type) → (Ex → St → Option R') → Option R') (lv : Ex → Ex) (g : St → Option R) (k : Ex → St → Option R) : Option R :=
  match j.all with
  | true => bindO (f (ShT j.its) fun e s' => match lv e with
    | .normal => joinS j.its j.dead s s'
    | _ => none) fun x => g (fillS j.its j.dead s x)
  | false => bindS (f (ShT j.its ⊕ R) fun e s' => match lv e with
    | .normal => mapO Sum.inl (joinS j.its j.dead s s')
    | e => mapO Sum.inr (k e s')) fun x => g (fillS j.its j.dead s x)

open Classical in
noncomputable def eqO {R : Type} (a b : Option R) : Option R := if a = b then a else none
theorem eqO_some {R : Type} {a b : Option R} {r : R} (h : eqO a b = some r) : a = some r ∧ b = some r := by
  unfold eqO at h
  split at h
  · rename_i e
    exact ⟨h, e ▸ h⟩
  · cases h

noncomputable def ev (E : EvOp) (n : Nat) (An : Nat → Option Jn) : Code → Nat → St → (R : Type) → (Ex → St → Option R) → Option R
  | .skip, _, s, _, k => k .normal s
  | .region _ ops false, _, s, _, k => evText E n ops ops.toList s (k .normal)
  | .region _ ops true, _, s, _, k => evDrawn E n ops s (k .normal)
  | .seq a b, p, s, R, k => match An p with
    | none => ev E n An a (2 * p) s R fun e s' => match e with
      | .normal => ev E n An b (2 * p + 1) s' R k
      | e => k e s'
    | some j => meet j s (ev E n An a (2 * p) s) id (fun s' => ev E n An b (2 * p + 1) s' R k) k
  | .cond c a b, p, s, R, k => match opnd s c with
    | some (.one (.bool t), _) => bif t then ev E n An a (2 * p) s R k else ev E n An b (2 * p + 1) s R k
    | some (.one .anyb, _) => eqO (ev E n An a (2 * p) s R k) (ev E n An b (2 * p + 1) s R k)
    | _ => none
  | .block id a, p, s, R, k => match An p with
    | none => ev E n An a (2 * p) s R fun e s' => k (leave id e) s'
    | some j => meet j s (ev E n An a (2 * p) s) (leave id) (k .normal) k
  | .loop a, p, s, R, k => match An p with
    | none => none
    | some j => bindO (joinS j.its j.dead s s) fun x0 => loopO (fun x => ev E n An a (2 * p) (fillS j.its j.dead s x) (ShT j.its ⊕ R) fun e s' => match e with
      | .normal => mapO Sum.inl (joinS j.its j.dead s s')
      | e => mapO Sum.inr (k e s')) x0
  | .ret, _, s, _, k => k .ret s
  | .exit id, _, s, _, k => k (.exit id) s
  | _, _, _, _, _ => none

theorem bindO_some {A B : Type} {o : Option A} {f : A → Option B} {y : B} (h : bindO o f = some y) : ∃ x, o = some x ∧ f x = some y := by
  cases o with
  | none => cases h
  | some x => exact ⟨x, rfl, h⟩
theorem mapO_some {A B : Type} {o : Option A} {f : A → B} {y : B} (h : mapO f o = some y) : ∃ x, o = some x ∧ f x = y := by
  cases o with
  | none => cases h
  | some x => simp only [mapO] at h; injection h with h; exact ⟨x, rfl, h⟩
theorem bindS_some {A B : Type} {o : Option (A ⊕ B)} {f : A → Option B} {y : B} (h : bindS o f = some y) : (∃ x, o = some (.inl x) ∧ f x = some y) ∨ o = some (.inr y) := by
  cases o with
  | none => cases h
  | some x => cases x with
    | inl x => exact .inl ⟨x, rfl, h⟩
    | inr z => simp only [bindS] at h; injection h with h; subst h; exact .inr rfl

/-- What the evaluation of a code tells of its run. -/
def EvOk (P : Program) (n : Nat) (c : Code) (s : St) (f : (R : Type) → (Ex → St → Option R) → Option R) : Prop :=
  ∀ (R : Type) (k : Ex → St → Option R) (r : R), f R k = some r → ∀ w0 φ0 a m (Q : Exit → Act → World → Prop), Rel n w0 φ0 s a m →
    (∀ e s' a' m', k e s' = some r → s <:+ s' → Rel n w0 φ0 s' a' m' → Q e.to a' m'.w) → c.wp P Q a m.w

theorem meet_ok {P : Program} {n : Nat} {c : Code} {s : St} {f : (R : Type) → (Ex → St → Option R) → Option R} (hf : EvOk P n c s f) {R : Type} {j : Jn} {lv : Ex → Ex} {g : St → Option R} {k : Ex → St → Option R} {r : R}
    (h : meet j s f lv g k = some r) {w0 : World} {φ0 : Gh} {a : Act} {m : Mem} (hr : Rel n w0 φ0 s a m) {Q : Exit → Act → World → Prop}
    (hn : ∀ e s' a' m', lv e = .normal → g s' = some r → s <:+ s' → Rel n w0 φ0 s' a' m' → Q e.to a' m'.w)
    (ho : ∀ e s' a' m', lv e ≠ .normal → k (lv e) s' = some r → s <:+ s' → Rel n w0 φ0 s' a' m' → Q e.to a' m'.w) : c.wp P Q a m.w := by
  unfold meet at h
  split at h
  · obtain ⟨x, h1, h2⟩ := bindO_some h
    refine hf _ _ _ h1 w0 φ0 a m Q hr fun e s' a' m' hk hs hr' => ?_
    split at hk
    · rename_i he
      obtain ⟨m1, e1, hr1⟩ := joinS_ok hk hs hr'
      rw [← e1]
      exact hn e _ a' m1 he h2 (fillS_suffix _ _ _ _) hr1
    · cases hk
  · rcases bindS_some h with ⟨x, h1, h2⟩ | h1
    · refine hf _ _ _ h1 w0 φ0 a m Q hr fun e s' a' m' hk hs hr' => ?_
      split at hk
      · rename_i he
        obtain ⟨y, h3, h4⟩ := mapO_some hk
        injection h4 with h4; subst h4
        obtain ⟨m1, e1, hr1⟩ := joinS_ok h3 hs hr'
        rw [← e1]
        exact hn e _ a' m1 he h2 (fillS_suffix _ _ _ _) hr1
      · obtain ⟨y, h3, h4⟩ := mapO_some hk
        cases h4
    · refine hf _ _ _ h1 w0 φ0 a m Q hr fun e s' a' m' hk hs hr' => ?_
      split at hk
      · obtain ⟨y, h3, h4⟩ := mapO_some hk
        cases h4
      · rename_i he
        obtain ⟨y, h3, h4⟩ := mapO_some hk
        injection h4 with h4; subst h4
        exact ho e s' a' m' (fun hh => he hh) h3 hs hr'

theorem opnd_bool {s : St} {x : Operand} {b : Bool} {rd : Rds} (h : opnd s x = some (.one (.bool b), rd)) {n : Nat} {w0 : World} {φ0 : Gh} {a : Act} {m : Mem} (hr : Rel n w0 φ0 s a m) : a.eval x = .bool b :=
  opnd_ok h hr (opnd_reads h)

theorem ev_ok {P : Program} (hm : P.follows .mixedOrders = true) {E : EvOp} (hE : EvOpOk P E) {n : Nat} {An : Nat → Option Jn} : ∀ (c : Code) (p : Nat) (s : St), EvOk P n c s (ev E n An c p s) := by
  intro c
  induction c with
  | skip => intro p s R k r h w0 φ0 a m Q hr hk; simp only [ev] at h; exact wp_skip (hk _ _ a m h (List.suffix_refl _) hr)
  | region id ops d =>
    intro p s R k r h w0 φ0 a m Q hr hk
    cases d with
    | false =>
      simp only [ev] at h
      obtain ⟨s', h1, h2, h3⟩ := evText_region (id := id) hE h
      exact h3 w0 φ0 a m hr Q fun a' m' hr' => hk .normal s' a' m' h1 h2 hr'
    | true =>
      simp only [ev] at h
      obtain ⟨s', h1, h2, h3⟩ := evDrawn_region (id := id) hm hE h
      exact h3 w0 φ0 a m hr Q fun a' m' hr' => hk .normal s' a' m' h1 h2 hr'
  | seq x y ihx ihy =>
    intro p s R k r h w0 φ0 a m Q hr hk
    simp only [ev] at h
    refine wp_seq ?_
    split at h
    · refine ihx _ s _ _ r h w0 φ0 a m _ hr fun e s' a' m' hk' hs hr' => ?_
      cases e with
      | normal => exact ihy _ s' _ _ r hk' w0 φ0 a' m' Q hr' fun e s'' a'' m'' h1 h2 h3 => hk e s'' a'' m'' h1 (hs.trans h2) h3
      | exit id => exact hk _ s' a' m' hk' hs hr'
      | ret => exact hk _ s' a' m' hk' hs hr'
    · refine meet_ok (ihx _ s) h hr (fun e s' a' m' he hg hs hr' => ?_) (fun e s' a' m' he hg hs hr' => ?_)
      · simp only [id] at he; subst he
        exact ihy _ s' _ _ r hg w0 φ0 a' m' Q hr' fun e s'' a'' m'' h1 h2 h3 => hk e s'' a'' m'' h1 (hs.trans h2) h3
      · simp only [id] at he hg
        have := hk e s' a' m' hg hs hr'
        cases e with
        | normal => exact absurd rfl he
        | exit id => exact this
        | ret => exact this
  | cond c x y ihx ihy =>
    intro p s R k r h w0 φ0 a m Q hr hk
    simp only [ev] at h
    split at h
    · rename_i t rd hc
      refine wp_cond (opnd_bool hc hr) ?_
      cases t with
      | true => exact ihx _ s _ _ r h w0 φ0 a m Q hr hk
      | false => exact ihy _ s _ _ r h w0 φ0 a m Q hr hk
    · rename_i rd hc
      obtain ⟨h1, h2⟩ := eqO_some h
      obtain ⟨b, hb⟩ : ∃ b, a.eval c = .bool b := opnd_ok hc hr (opnd_reads hc)
      refine wp_cond hb ?_
      cases b with
      | true => exact ihx _ s _ _ r h1 w0 φ0 a m Q hr hk
      | false => exact ihy _ s _ _ r h2 w0 φ0 a m Q hr hk
    · cases h
  | block id x ih =>
    intro p s R k r h w0 φ0 a m Q hr hk
    simp only [ev] at h
    refine wp_block ?_
    have key : ∀ e s' a' m', k (leave id e) s' = some r → s <:+ s' → Rel n w0 φ0 s' a' m' → Exit.inBlock id Q e.to a' m'.w := by
      intro e s' a' m' h1 h2 h3
      have := hk _ s' a' m' h1 h2 h3
      cases e with
      | normal => exact this
      | ret => exact this
      | exit i =>
        simp only [leave] at this
        simp only [Ex.to, Exit.inBlock]
        split at this
        · rename_i hb; rw [if_pos (Nat.eq_of_beq_eq_true hb)]; exact this
        · rename_i hb; rw [if_neg fun e => by subst e; rw [Nat.beq_refl] at hb; cases hb]; exact this
    split at h
    · exact ih _ s _ _ r h w0 φ0 a m _ hr key
    · refine meet_ok (ih _ s) h hr (fun e s' a' m' he hg hs hr' => ?_) (fun e s' a' m' he hg hs hr' => key e s' a' m' hg hs hr')
      exact key e s' a' m' (by rw [he]; exact hg) hs hr'
  | loop x ih =>
    intro p s R k r h w0 φ0 a m Q hr hk
    simp only [ev] at h
    split at h
    · cases h
    · rename_i j hj
      obtain ⟨x0, h1, h2⟩ := bindO_some h
      obtain ⟨N, hN⟩ := loopO_spec h2
      obtain ⟨m0, e0, hr0⟩ := joinS_ok h1 (List.suffix_refl _) hr
      refine wp_loop_rounds N ?_
      rw [← e0]
      clear h1 h h2 e0 hr
      induction N generalizing x0 a m0 with
      | zero => cases hN
      | succ N ihN =>
        rw [rounds_succ]
        simp only [loopN] at hN
        split at hN
        · rename_i y hy
          refine ih _ _ _ _ _ hy w0 φ0 a m0 _ hr0 fun e s' a' m' hk' hs hr' => ?_
          cases e with
          | normal =>
            obtain ⟨z, h3, h4⟩ := mapO_some hk'
            injection h4 with h4; subst h4
            obtain ⟨m1, e1, hr1⟩ := joinS_ok h3 ((fillS_suffix _ _ _ _).trans hs) hr'
            simp only [Ex.to, Exit.then]
            rw [← e1]
            first | exact ihN _ _ _ hN hr1 | exact ihN _ _ hN _ hr1 | exact ihN _ _ _ hr1 hN
          | exit id => obtain ⟨z, h3, h4⟩ := mapO_some hk'; cases h4
          | ret => obtain ⟨z, h3, h4⟩ := mapO_some hk'; cases h4
        · rename_i y hy
          injection hN with hN; subst hN
          refine ih _ _ _ _ _ hy w0 φ0 a m0 _ hr0 fun e s' a' m' hk' hs hr' => ?_
          have hs' := (fillS_suffix j.its j.dead s x0).trans hs
          cases e with
          | normal => obtain ⟨z, h3, h4⟩ := mapO_some hk'; cases h4
          | exit id =>
            obtain ⟨z, h3, h4⟩ := mapO_some hk'
            injection h4 with h4; subst h4
            exact hk _ s' a' m' h3 hs' hr'
          | ret =>
            obtain ⟨z, h3, h4⟩ := mapO_some hk'
            injection h4 with h4; subst h4
            exact hk _ s' a' m' h3 hs' hr'
        · cases hN
  | ret => intro p s R k r h w0 φ0 a m Q hr hk; simp only [ev] at h; exact wp_ret (hk _ _ a m h (List.suffix_refl _) hr)
  | exit id => intro p s R k r h w0 φ0 a m Q hr hk; simp only [ev] at h; exact wp_exit (hk _ _ a m h (List.suffix_refl _) hr)
  | rangeFunc f ps x y _ _ => intro p s R k r h; simp only [ev] at h; cases h
  | scope x _ => intro p s R k r h; simp only [ev] at h; cases h
  | label l => intro p s R k r h; simp only [ev] at h; cases h
  | goto l => intro p s R k r h; simp only [ev] at h; cases h
  | refuse w => intro p s R k r h; simp only [ev] at h; cases h

end Go.Proofs.Ytlgbhpphfimdbaa.Ev
