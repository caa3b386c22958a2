/- An operation of the language, evaluated. -/
import Derived.Test.YtlgbhpphfimdbaaEv34
namespace Go.Proofs.Ytlgbhpphfimdbaa.Ev
set_option linter.unusedVariables false
set_option linter.unusedSimpArgs false

def kp {R : Type} (d : Nat) (κ : Ke R) : Kp R := fun rds xw v => κ ⟨rds, (.t d, some (.t v)) :: xw.map (fun q => (Loc.x q.1, some (LV.x q.2))), xw.map (fun q => Loc.x q.1)⟩

theorem OutP.g {R : Type} {P : Program} {s : St} {op : Op} {d : Nat} {κ : Ke R} {r : R} (h : OutP P s op (kp d κ) r) : OutG P s op (some d) κ r := by
  obtain ⟨rds, xw, v, h1, h2, h3⟩ := h
  exact ⟨_, h1, h2, fun n o ho hd hlt => (h3 n o ho).good hd (hlt d rfl)⟩
theorem OutE.g {R : Type} {P : Program} {s : St} {op : Op} {d : Nat} {κ : Ke R} {r : R} (h : OutE P s op d κ r) : OutG P s op (some d) κ r := by
  obtain ⟨δ, h1, h2, h3⟩ := h
  exact ⟨δ, h1, h2, fun n o ho hd hlt => h3 n o ho hd (hlt d rfl)⟩
theorem OutS.g {R : Type} {P : Program} {s : St} {op : Op} {κ : Ke R} {r : R} (h : OutS P s op κ r) : OutG P s op none κ r := by
  obtain ⟨δ, h1, h2, h3⟩ := h
  exact ⟨δ, h1, h2, fun n o ho hd hlt => h3 n o ho hd⟩

def evCall {R : Type} (cfg : Cfg) (Γ : List (Nat × Fn)) (s : St) (c : Call) (d : Option Nat) (κ : Ke R) : Option R :=
  match c.callee, c.args.toList, c.argTypes.toList, d with
  | .builtin .len, [x], [t], some d => pLen cfg s t x (kp d κ)
  | .builtin .min, [x, y], _, some d => pMin s x y (kp d κ)
  | .builtin .max, [x, y], _, some d => pMax s x y (kp d κ)
  | .builtin .append, [x, y], [t, t'], some d => xApp cfg s d t t' x y κ
  | .value (.func f), args, _, d => xCall cfg Γ s d f args κ
  | _, _, _, _ => none

theorem evCall_ok {R : Type} {P : Program} {cfg : Cfg} (hc : CfgOk P cfg) {Γ : List (Nat × Fn)} (hΓ : TabOk P Γ) {s : St} {c : Call} {d : Option Nat} {κ : Ke R} {r : R} (h : evCall cfg Γ s c d κ = some r) : OutG P s (.call c) d κ r := by
  obtain ⟨callee, args, ats⟩ := c
  unfold evCall at h
  split at h
  · rename_i e1 e2 e3
    simp only at e1 e2 e3
    subst e1
    have e2 : args = #[_] := Array.toList_inj.1 e2
    have e3 : ats = #[_] := Array.toList_inj.1 e3
    subst e2; subst e3
    exact (pLen_ok hc h).g
  · rename_i e1 e2
    simp only at e1 e2
    subst e1
    have e2 : args = #[_, _] := Array.toList_inj.1 e2
    subst e2
    exact (pMin_ok h _).g
  · rename_i e1 e2
    simp only at e1 e2
    subst e1
    have e2 : args = #[_, _] := Array.toList_inj.1 e2
    subst e2
    exact (pMax_ok h _).g
  · rename_i e1 e2 e3
    simp only at e1 e2 e3
    subst e1
    have e2 : args = #[_, _] := Array.toList_inj.1 e2
    have e3 : ats = #[_, _] := Array.toList_inj.1 e3
    subst e2; subst e3
    exact (xApp_ok hc h).g
  · rename_i f _ _ _ e1
    simp only at e1
    subst e1
    have := xCall_ok hΓ h ats
    simpa using this
  · cases h

def evOp (cfg : Cfg) (Γ : List (Nat × Fn)) : EvOp := fun {R} s op d κ => match op, d with
  | .move x, some d => pMove s x (kp d κ)
  | .assign x, some d => pMove s x (kp d κ)
  | .pick c x y, some d => pPick s c x y (kp d κ)
  | .binOp .eql t x (.const (.slice none 0 0)) _, some d => pNilEq cfg s false t x (kp d κ)
  | .binOp .neq t x (.const (.slice none 0 0)) _, some d => pNilEq cfg s true t x (kp d κ)
  | .binOp op t x y _, some d => pBin cfg s op t x y (kp d κ)
  | .unOp op t x, some d => pUn s op x (kp d κ)
  | .convert a b x, some d => match intK cfg a, isStrT cfg a, isStrT cfg b with
    | none, false, false => xFrz cfg s d a b x κ
    | _, _, _ => pConv cfg s a b x (kp d κ)
  | .build t ps, some d => pBuild cfg s t ps (kp d κ)
  | .field t x f, some d => pField cfg s t x f (kp d κ)
  | .extract x i, some d => pExtract s x i (kp d κ)
  | .fieldAddr t x f, some d => pFieldAddr cfg s t x f (kp d κ)
  | .nilCheck x, some d => pNil s x (kp d κ)
  | .load t x, some d => pLoad cfg s t x (kp d κ)
  | .index t x i, some d => pIndex cfg s t x i (kp d κ)
  | .indexAddr t x i, some d => pIndexAddr cfg s d t x i (kp d κ)
  | .slice t x lo hi mx, some d => pSlice cfg s t x lo hi mx (kp d κ)
  | .box t x, some d => xBox cfg s d t x κ
  | .alloc t, some d => xAlloc cfg d t κ
  | .makeSlice t l c, some d => xMake cfg s d t l c κ
  | .buildSlice t n ps, some d => xLit cfg s d t n ps κ
  | .store t x y, none => xStore cfg s t x y κ
  | .call c, d => evCall cfg Γ s c d κ
  | _, _ => none

theorem evOp_ok {P : Program} {cfg : Cfg} (hc : CfgOk P cfg) {Γ : List (Nat × Fn)} (hΓ : TabOk P Γ) : EvOpOk P (evOp cfg Γ) := by
  intro R s op d κ r h
  unfold evOp at h
  dsimp only at h
  split at h
  · exact (pMove_ok h (.inl rfl)).g
  · exact (pMove_ok h (.inr rfl)).g
  · exact (pPick_ok h).g
  · exact (pNilEq_ok (neg := false) hc h _).g
  · exact (pNilEq_ok (neg := true) hc h _).g
  · exact (pBin_ok hc h _).g
  · exact (pUn_ok h _).g
  · split at h
    · exact (xFrz_ok hc h).g
    · exact (pConv_ok hc h).g
  · exact (pBuild_ok hc h).g
  · exact (pField_ok hc h).g
  · exact (pExtract_ok h).g
  · exact (pFieldAddr_ok hc h).g
  · exact (pNil_ok h).g
  · exact (pLoad_ok hc h).g
  · exact (pIndex_ok hc h).g
  · exact (pIndexAddr_ok hc h).g
  · exact (pSlice_ok hc h).g
  · exact (xBox_ok h).g
  · exact (xAlloc_ok hc h).g
  · exact (xMake_ok hc h).g
  · exact (xLit_ok hc h).g
  · exact (xStore_ok hc h).g
  · exact evCall_ok hc hΓ h
  · cases h

end Go.Proofs.Ytlgbhpphfimdbaa.Ev
