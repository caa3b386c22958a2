/- What a function computes, written out, is what its contract says; tables of callees, tables of types. -/
import Derived.Test.YtlgbhpphfimdbaaEv39
set_option linter.unusedVariables false
namespace Go.Proofs.Ytlgbhpphfimdbaa.Ev
def bAnd (k : IntKind) (x y : Int) : Int := k.wrap ((BitVec.ofInt k.bits x &&& BitVec.ofInt k.bits y).toNat : Int)
def bOr (k : IntKind) (x y : Int) : Int := k.wrap ((BitVec.ofInt k.bits x ||| BitVec.ofInt k.bits y).toNat : Int)
def bXor (k : IntKind) (x y : Int) : Int := k.wrap ((BitVec.ofInt k.bits x ^^^ BitVec.ofInt k.bits y).toNat : Int)
def bAndNot (k : IntKind) (x y : Int) : Int := k.wrap ((BitVec.ofInt k.bits x &&& ~~~ (BitVec.ofInt k.bits y)).toNat : Int)

theorem sound_mk2 {P : Program} (hm : P.follows .mixedOrders = true) {cfg : Cfg} (hc : CfgOk P cfg) {Γ : List (Nat × Fn)} (hΓ : TabOk P Γ) {f : Nat} {fn : Func} {c : Code} (hf : P.funcs[f]? = some fn) (hb : fn.body = some c) {An : Nat → Option Jn}
    {ps : List PK} {res : List RK} (hn : ps.length ≤ fn.ntmps) (hn2 : fn.ntmps ≤ 1000) (hp : ps.length ≤ 16) (hsz : ∀ p ∈ ps, szOk p.k = true) {g : Ts (ins ps) → Option (Ts (outs res ps))}
    (e : ∀ x, (mkFn cfg Γ An fn.ntmps fn.results.toList c ps res).fn x = g x) : Sound P f ⟨ps, res, g⟩ := by
  have h := sound_mk hm hc hΓ hf hb (An := An) (res := res) hn hn2 hp hsz
  rw [show g = (mkFn cfg Γ An fn.ntmps fn.results.toList c ps res).fn from (funext e).symm]
  exact h

theorem tab_nil {P : Program} : TabOk P [] := fun p hp => by cases hp
theorem tab_cons {P : Program} {g : Nat} {F : Fn} {Γ : List (Nat × Fn)} (h1 : Enters P g) (h2 : Sound P g F) (h : TabOk P Γ) : TabOk P ((g, F) :: Γ) := fun p hp => by
  rcases List.mem_cons.1 hp with rfl | hp
  · exact ⟨h1, h2⟩
  · exact h p hp

def FldsOk (P : Program) : List Field → List (Nat × Nat × Bool) → Prop
  | [], [] => True
  | fd :: fs, f :: l => FldOk P fd f ∧ FldsOk P fs l
  | _, _ => False

theorem fldsOk_get {P : Program} : ∀ {fs : List Field} {l : List (Nat × Nat × Bool)}, FldsOk P fs l → fs.length = l.length ∧ ∀ (j : Nat) f, l[j]? = some f → ∃ fd, fs[j]? = some fd ∧ FldOk P fd f
  | [], [], _ => ⟨rfl, fun j f h => by simp at h⟩
  | fd :: fs, f :: l, h => by
    have ⟨h1, h2⟩ := fldsOk_get h.2
    refine ⟨by simp [h1], fun j g hj => ?_⟩
    cases j with
    | zero => simp only [List.getElem?_cons_zero, Option.some.injEq] at hj; subst hj; exact ⟨fd, rfl, h.1⟩
    | succ j => exact h2 j g (by simpa using hj)
  | [], _ :: _, h => h.elim
  | _ :: _, [], h => h.elim

def K.prim : K → Bool
  | .int _ => true
  | .bool => true
  | .str => true
  | _ => false

theorem tyOk_st {P : Program} {t : Nat} {f : TypeInfo} {fs : Array Field} {k : K} {b : Nat} {fl : List (Nat × Nat × Bool)} (h1 : P.info? t = some f) (h2 : f.size = k.sz) (h3 : f.bytes = b)
    (h4 : f.zero = some (.agg (zc k).toArray)) (h5 : P.underlying t = some (.struct fs)) (h7 : FldsOk P fs.toList fl) (hk : k.prim = false) : TyOk P t ⟨true, k, b, fl⟩ := by
  have ⟨g1, g2⟩ := fldsOk_get h7
  refine ⟨⟨f, _, h1, h2, h3, h4, by simp [Value.cells], fun _ => by simp [Value.cells]⟩, _, h5, rfl, fun κ h => ?_, fun h => ?_, fun h => ?_, fun _ => ⟨fs, rfl, by simpa using g1, fun j f hj => ?_⟩⟩
  · simp only at h; rw [h] at hk; cases hk
  · simp only at h; rw [h] at hk; cases hk
  · simp only at h; rw [h] at hk; cases hk
  · obtain ⟨fd, a, b⟩ := g2 j f hj
    exact ⟨fd, by simpa using a, b⟩

def AllTy (P : Program) : List (Nat × TyI) → Prop
  | [] => True
  | p :: l => TyOk P p.1 p.2 ∧ AllTy P l
def AllEl (P : Program) : List (Nat × Nat) → Prop
  | [] => True
  | p :: l => P.underlying p.1 = some (.slice p.2) ∧ AllEl P l
theorem cfgA_ok {P : Program} {tys : List (Nat × TyI)} {els : List (Nat × Nat)} (h : AllTy P tys) (he : AllEl P els) : CfgOk P (cfgL tys els) := by
  refine cfgL_ok ?_ ?_
  · clear he
    induction tys with
    | nil => intro p hp; cases hp
    | cons q l ih =>
      intro p hp
      rcases List.mem_cons.1 hp with rfl | hp
      · exact h.1
      · exact ih h.2 p hp
  · clear h
    induction els with
    | nil => intro p hp; cases hp
    | cons q l ih =>
      intro p hp
      rcases List.mem_cons.1 hp with rfl | hp
      · exact he.1
      · exact ih he.2 p hp
end Go.Proofs.Ytlgbhpphfimdbaa.Ev
