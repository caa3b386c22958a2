/- Where paths meet: what varies is read off a state as data, and a state is made anew of it. -/
import Derived.Test.YtlgbhpphfimdbaaEv20
namespace Go.Proofs.Ytlgbhpphfimdbaa.Ev
set_option linter.unusedVariables false
set_option linter.unusedSimpArgs false

/-- A cell's pattern: what is data of it. -/
inductive Sp where
  | int (k : IntKind)
  | bool
  | str
  | ro (e : Nat) (k : K)
  | own (c : Nat)
  | nil
  | ptr (b off : Nat)
  | fn (f : Nat)

/-- A state's pattern: temporaries, boxes, and (behind them) rows. -/
inductive It where
  | t (d : Nat) (agg : Bool) (sps : List Sp)
  | b (d : Nat) (sps : List Sp)
  | r (c e : Nat) (k : K)

@[reducible] def LT : List Sp → Type → Type
  | [], R => R
  | .int _ :: sps, R => Int × LT sps R
  | .bool :: sps, R => Bool × LT sps R
  | .str :: sps, R => ByteArray × LT sps R
  | .ro _ k :: sps, R => List k.T × LT sps R
  | .own _ :: sps, R => LT sps R
  | .nil :: sps, R => LT sps R
  | .ptr _ _ :: sps, R => LT sps R
  | .fn _ :: sps, R => LT sps R

@[reducible] def ShT : List It → Type
  | [] => Unit
  | .t _ _ sps :: its => LT sps (ShT its)
  | .b _ sps :: its => LT sps (ShT its)
  | .r _ _ k :: its => List k.T × ShT its

abbrev Mp := List (Nat × Option Nat)
def lookM : Mp → Nat → Option (Option Nat)
  | [], _ => none
  | (c, o) :: μ, d => match Nat.beq c d with
    | true => some o
    | false => lookM μ d

def optB : Option Nat → Option Nat → Bool
  | none, none => true
  | some a, some b => Nat.beq a b
  | _, _ => false

def addM (μ : Mp) (c : Nat) (o : Option Nat) : Option Mp := match lookM μ c with
  | none => some ((c, o) :: μ)
  | some o' => match optB o o' with
    | true => some μ
    | false => none

def mapFst {A B M : Type} (f : A → B) : Option (A × M) → Option (B × M)
  | some (x, m) => some (f x, m)
  | none => none

def pLeaves {R : Type} (s : St) : (sps : List Sp) → List Lf → Mp → (Mp → Option (R × Mp)) → Option (LT sps R × Mp)
  | [], [], μ, kk => kk μ
  | .int k :: sps, .int k' n :: ls, μ, kk => match decide (k = k') with
    | true => mapFst (fun x => (n, x)) (pLeaves s sps ls μ kk)
    | false => none
  | .bool :: sps, .bool b :: ls, μ, kk => mapFst (fun x => (b, x)) (pLeaves s sps ls μ kk)
  | .str :: sps, .str b :: ls, μ, kk => mapFst (fun x => (b, x)) (pLeaves s sps ls μ kk)
  | .ro e k :: sps, .ro e' k' xs :: ls, μ, kk => match Nat.beq e e', castL k' k xs with
    | true, some ys => mapFst (fun x => (ys, x)) (pLeaves s sps ls μ kk)
    | _, _ => none
  | .ro e k :: sps, .nil :: ls, μ, kk => mapFst (fun x => ([], x)) (pLeaves s sps ls μ kk)
  | .own c :: sps, .own a :: ls, μ, kk => match s.getR a, addM μ c (some a) with
    | some _, some μ' => pLeaves s sps ls μ' kk
    | _, _ => none
  | .own c :: sps, .nil :: ls, μ, kk => match addM μ c none with
    | some μ' => pLeaves s sps ls μ' kk
    | none => none
  | .nil :: sps, .nil :: ls, μ, kk => pLeaves s sps ls μ kk
  | .ptr b off :: sps, .ptr b' off' :: ls, μ, kk => match Nat.beq b b', Nat.beq off off' with
    | true, true => pLeaves s sps ls μ kk
    | _, _ => none
  | .fn f :: sps, .fn f' :: ls, μ, kk => match Nat.beq f f' with
    | true => pLeaves s sps ls μ kk
    | false => none
  | _, _, _, _ => none

def fLeaves {R : Type} : (sps : List Sp) → LT sps R → List Lf × R
  | [], x => ([], x)
  | .int k :: sps, x => (.int k x.1 :: (fLeaves sps x.2).1, (fLeaves sps x.2).2)
  | .bool :: sps, x => (.bool x.1 :: (fLeaves sps x.2).1, (fLeaves sps x.2).2)
  | .str :: sps, x => (.str x.1 :: (fLeaves sps x.2).1, (fLeaves sps x.2).2)
  | .ro e k :: sps, x => (.ro e k x.1 :: (fLeaves sps x.2).1, (fLeaves sps x.2).2)
  | .own c :: sps, x => (.own c :: (fLeaves sps x).1, (fLeaves sps x).2)
  | .nil :: sps, x => (.nil :: (fLeaves sps x).1, (fLeaves sps x).2)
  | .ptr b off :: sps, x => (.ptr b off :: (fLeaves sps x).1, (fLeaves sps x).2)
  | .fn f :: sps, x => (.fn f :: (fLeaves sps x).1, (fLeaves sps x).2)

def mkAV (agg : Bool) (ls : List Lf) : AV := match agg with
  | true => .agg ls
  | false => match ls with
    | [l] => .one l
    | ls => .agg ls

def pIts (s : St) : (its : List It) → Mp → Option (ShT its × Mp)
  | [], μ => some ((), μ)
  | .t d agg sps :: its, μ => match s.getT d, agg with
    | some (.one l), false => pLeaves s sps [l] μ (pIts s its)
    | some (.agg ls), true => pLeaves s sps ls μ (pIts s its)
    | _, _ => none
  | .b d sps :: its, μ => match s.getB d with
    | some ls => pLeaves s sps ls μ (pIts s its)
    | none => none
  | .r c e k :: its, μ => match lookM μ c with
    | some (some a) => match s.getR a with
      | some row => match Nat.beq row.e e, castL row.k k row.xs with
        | true, some xs => mapFst (fun x => (xs, x)) (pIts s its μ)
        | _, _ => none
      | none => none
    | some none => mapFst (fun x => ([], x)) (pIts s its μ)
    | none => none

def fIts : (its : List It) → ShT its → St
  | [], _ => []
  | .t d agg sps :: its, x => (.t d, some (.t (mkAV agg (fLeaves sps x).1))) :: fIts its (fLeaves sps x).2
  | .b d sps :: its, x => (.b d, some (.b (fLeaves sps x).1)) :: fIts its (fLeaves sps x).2
  | .r c e k :: its, x => (.r c, some (.r ⟨e, k, x.1, 0⟩)) :: fIts its x.2

def It.loc : It → Loc
  | .t d _ _ => .t d
  | .b d _ => .b d
  | .r c _ _ => .r c

theorem fIts_locs : ∀ (its : List It) (x : ShT its), (fIts its x).map (·.1) = its.map It.loc
  | [], _ => rfl
  | .t d agg sps :: its, x => by simp only [fIts, List.map_cons, fIts_locs its]; rfl
  | .b d sps :: its, x => by simp only [fIts, List.map_cons, fIts_locs its]; rfl
  | .r c e k :: its, x => by simp only [fIts, List.map_cons, fIts_locs its]; rfl

def SubM (μ μ' : Mp) : Prop := ∀ c o, lookM μ c = some o → lookM μ' c = some o
theorem SubM.refl (μ : Mp) : SubM μ μ := fun _ _ h => h
theorem SubM.trans {a b c : Mp} (h : SubM a b) (h1 : SubM b c) : SubM a c := fun x o e => h1 x o (h x o e)

theorem optB_ok {a b : Option Nat} (h : optB a b = true) : a = b := by
  cases a <;> cases b <;> simp [optB] at h <;> try rfl
  rw [h]

theorem addM_ok {μ μ' : Mp} {c : Nat} {o : Option Nat} (h : addM μ c o = some μ') : SubM μ μ' ∧ lookM μ' c = some o := by
  unfold addM at h
  split at h
  · rename_i hn
    injection h with h; subst h
    refine ⟨fun d o' hd => ?_, by simp [lookM]⟩
    simp only [lookM]
    split
    · rename_i hb
      rw [← Nat.eq_of_beq_eq_true hb, hn] at hd; cases hd
    · exact hd
  · rename_i o' ho
    split at h
    · rename_i hb
      injection h with h; subst h
      exact ⟨SubM.refl _, by rw [ho, optB_ok hb]⟩
    · cases h

def rhoM (μ : Mp) (ρ : Nat → Value) : Nat → Value := fun c => match lookM μ c with
  | some (some a) => ρ a
  | some none => .slice none 0 0
  | none => ρ c

/-- What holds between the state ahead of a meeting and the one behind it. -/
structure JE (s : St) (m : Mem) (s1 : St) (m1 : Mem) (μ : Mp) : Prop where
  keep : Keeps m.w m1.w m.φ m1.φ
  rho : ∀ c o, lookM μ c = some o → m1.ρ c = match o with
    | some a => m.ρ a
    | none => .slice none 0 0
  box : ∀ b c, s1.get (.b b) = some (.b c) → ∃ c', s.get (.b b) = some (.b c') ∧ m1.β b = m.β b

theorem mapFst_some {A B M : Type} {f : A → B} {o : Option (A × M)} {y : B} {μ : M} (h : mapFst f o = some (y, μ)) : ∃ x, o = some (x, μ) ∧ y = f x := by
  cases o with
  | none => cases h
  | some p => obtain ⟨x, m⟩ := p; simp only [mapFst] at h; injection h with h; injection h with h1 h2; subst h1; subst h2; exact ⟨x, rfl, rfl⟩

theorem pLeaves_ok {R : Type} {s : St} : ∀ {sps : List Sp} {ls : List Lf} {μ μ' : Mp} {kk : Mp → Option (R × Mp)} {x : LT sps R}, pLeaves s sps ls μ kk = some (x, μ') →
    ∃ μ1, kk μ1 = some ((fLeaves sps x).2, μ') ∧ SubM μ μ1 ∧ ∀ m s1 m1 μf, JE s m s1 m1 μf → SubM μ1 μf → ∀ vs, All2 (LfC s m) ls vs → All2 (LfC s1 m1) (fLeaves sps x).1 vs := by
  intro sps
  induction sps with
  | nil =>
    intro ls μ μ' kk x h
    cases ls with
    | nil => exact ⟨μ, h, SubM.refl _, fun m s1 m1 μf _ _ vs hv => by cases vs with
      | nil => trivial
      | cons _ _ => exact hv.elim⟩
    | cons l ls => simp [pLeaves] at h
  | cons sp sps ih =>
    intro ls μ μ' kk x h
    cases ls with
    | nil => cases sp <;> simp [pLeaves] at h
    | cons l ls =>
      have step : ∀ {μ2 : Mp} {y : LT sps R} {l' : Lf}, pLeaves s sps ls μ2 kk = some (y, μ') → SubM μ μ2 → (∀ m s1 m1 μf, JE s m s1 m1 μf → SubM μ2 μf → ∀ v, LfC s m l v → LfC s1 m1 l' v) →
          ∃ μ1, kk μ1 = some ((fLeaves sps y).2, μ') ∧ SubM μ μ1 ∧ ∀ m s1 m1 μf, JE s m s1 m1 μf → SubM μ1 μf → ∀ vs, All2 (LfC s m) (l :: ls) vs → All2 (LfC s1 m1) (l' :: (fLeaves sps y).1) vs := by
        intro μ2 y l' hy hsub hl
        obtain ⟨μ1, h1, h2, h3⟩ := ih hy
        refine ⟨μ1, h1, hsub.trans h2, fun m s1 m1 μf hj hs vs hv => ?_⟩
        cases vs with
        | nil => exact hv.elim
        | cons v vs => exact ⟨hl m s1 m1 μf hj (h2.trans hs) v hv.1, h3 m s1 m1 μf hj hs vs hv.2⟩
      cases sp with
      | int k =>
        cases l <;> simp only [pLeaves] at h <;> try (cases h; done)
        split at h
        · rename_i hk
          have hk := of_decide_eq_true hk
          subst hk
          obtain ⟨y, hy, rfl⟩ := mapFst_some h
          exact step hy (SubM.refl _) fun m s1 m1 μf _ _ v hv => hv
        · cases h
      | bool =>
        cases l <;> simp only [pLeaves] at h <;> try (cases h; done)
        obtain ⟨y, hy, rfl⟩ := mapFst_some h
        exact step hy (SubM.refl _) fun m s1 m1 μf _ _ v hv => hv
      | str =>
        cases l <;> simp only [pLeaves] at h <;> try (cases h; done)
        obtain ⟨y, hy, rfl⟩ := mapFst_some h
        exact step hy (SubM.refl _) fun m s1 m1 μf _ _ v hv => hv
      | ro e k =>
        cases l <;> simp only [pLeaves] at h <;> try (cases h; done)
        · obtain ⟨y, hy, rfl⟩ := mapFst_some h
          exact step hy (SubM.refl _) fun m s1 m1 μf _ _ v hv => by
            simp only [LfC] at hv; subst hv
            exact ⟨none, 0, rfl, Nat.le_refl _, Nat.zero_le _, fun h => by simp at h⟩
        · split at h
          · rename_i ys hb hcast
            obtain ⟨y, hy, rfl⟩ := mapFst_some h
            have hb := Nat.eq_of_beq_eq_true hb
            subst hb
            obtain ⟨ek, rfl⟩ := castL_some hcast
            subst ek
            exact step hy (SubM.refl _) fun m s1 m1 μf hj _ v hv => Ro.keep (k := .rs 0 _) hv hj.keep
          · cases h
      | own c =>
        cases l <;> simp only [pLeaves] at h <;> try (cases h; done)
        · split at h
          · rename_i μ2 ha
            obtain ⟨h1, h2⟩ := addM_ok ha
            exact step h h1 fun m s1 m1 μf hj hs v hv => by
              simp only [LfC] at hv; subst hv
              exact ⟨rfl, fun r hr => (hj.rho c none (hs _ _ h2)).symm⟩
          · cases h
        · split at h
          · rename_i row μ2 hrow ha
            obtain ⟨h1, h2⟩ := addM_ok ha
            exact step h h1 fun m s1 m1 μf hj hs v hv => by
              refine ⟨hv.1, fun r hr => ?_⟩
              rw [hv.2 row (St.getR_some.1 hrow)]
              exact (hj.rho c _ (hs _ _ h2)).symm
          · cases h
      | nil =>
        cases l <;> simp only [pLeaves] at h <;> try (cases h; done)
        exact step h (SubM.refl _) fun m s1 m1 μf _ _ v hv => hv
      | ptr b off =>
        cases l <;> simp only [pLeaves] at h <;> try (cases h; done)
        split at h
        · rename_i h1 h2
          have h1 := Nat.eq_of_beq_eq_true h1
          have h2 := Nat.eq_of_beq_eq_true h2
          subst h1; subst h2
          exact step h (SubM.refl _) fun m s1 m1 μf hj _ v hv => ⟨hv.1, fun c hc => by
            obtain ⟨c', hc', e⟩ := hj.box _ c hc
            rw [e]; exact hv.2 c' hc'⟩
        · cases h
      | fn f =>
        cases l <;> simp only [pLeaves] at h <;> try (cases h; done)
        split at h
        · rename_i h1
          have h1 := Nat.eq_of_beq_eq_true h1
          subst h1
          exact step h (SubM.refl _) fun m s1 m1 μf _ _ v hv => hv
        · cases h

end Go.Proofs.Ytlgbhpphfimdbaa.Ev
