/- What a law is given reads as data of its kind; a law whose plain function always answers true holds as a row. -/
import Derived.Test.YtlgbhpphfimdbaaEv40
import Derived.WalkKit
import Derived.ProofKit
import Derived.OpenShut
import Derived.ShutString
import Derived.ChangeOld
import Derived.Below
import Derived.SizedLaws
import Derived.Carry
import Derived.JoinedOf
import Derived.DataElems
set_option linter.unusedVariables false
namespace Go.Proofs.Ytlgbhpphfimdbaa.Ev
open Go.ChangeShapes Go.WideShapes Go.ChangeAt Go.RowKit

mutual
inductive KOf (P : Program) : K → TypeId → Prop
  | int {κ : IntKind} {t : TypeId} : P.underlying t = some (.int κ) → KOf P (.int κ) t
  | bool {t : TypeId} : P.underlying t = some .bool → KOf P .bool t
  | str {t : TypeId} : P.underlying t = some .string → KOf P .str t
  | sl {e : Nat} {k : K} {t : TypeId} : P.underlying t = some (.slice e) → P.cellsOf e = k.sz → KOf P k e → KOf P (.sl e k) t
  | rs {e : Nat} {k : K} {t : TypeId} : P.underlying t = some (.slice e) → P.cellsOf e = k.sz → KOf P k e → KOf P (.rs e k) t
  | st {k : K} {t : TypeId} {fs : Array Field} : P.underlying t = some (.struct fs) → P.cellsOf t = k.sz → KFs P k fs.toList 0 → KOf P k t
inductive KFs (P : Program) : K → List Field → Nat → Prop
  | one {k : K} {fd : Field} {o : Nat} : fd.offset = o → P.cellsOf fd.type = k.sz → KOf P k fd.type → KFs P k [fd] o
  | cons {a b : K} {fd : Field} {fs : List Field} {o : Nat} : fd.offset = o → P.cellsOf fd.type = a.sz → KOf P a fd.type → KFs P b fs (o + a.sz) → KFs P (.pair a b) (fd :: fs) o
end

def Wf : (k : K) → k.T → Prop
  | .int κ, n => (Lit.int κ n).wf = true
  | .bool, _ => True
  | .str, s => s.size ≤ maxLen
  | .sl _ k, xs => xs.length ≤ maxLen ∧ ∀ x ∈ xs, Wf k x
  | .rs _ k, xs => xs.length ≤ maxLen ∧ ∀ x ∈ xs, Wf k x
  | .pair a b, x => Wf a x.1 ∧ Wf b x.2

theorem list_of {α : Type} {Q : Nat → α → Prop} {n : Nat} (h : ∀ i, i < n → ∃ x, Q i x) : ∃ xs : List α, xs.length = n ∧ ∀ i (hi : i < xs.length), Q i xs[i] := by
  refine ⟨List.ofFn fun i : Fin n => (h i.1 i.2).choose, by simp, fun i hi => ?_⟩
  simp only [List.getElem_ofFn]
  exact (h i (by simpa using hi)).choose_spec

theorem rol_of_trod {H : Type} {enc : TypeId × Value → H} {P : Program} {w : World} {held : Bool} {spare : Nat → Bool} {k : K} {t e : TypeId} (hu : P.underlying t = some (.slice e)) (hc : P.cellsOf e = k.sz)
    (ih : ∀ fuel cs x, DataW.trod enc P w 0 spare held fuel e cs = some x → ∃ x : k.T, Ro k w noCol x cs ∧ Wf k x)
    {fuel : Nat} {cs : List Value} {x : DataW H × List MemPlace} (h : DataW.trod enc P w 0 spare held fuel t cs = some x) :
    ∃ xs : List k.T, RoL (Ro k w noCol) k.sz w noCol xs cs ∧ xs.length ≤ maxLen ∧ ∀ x ∈ xs, Wf k x := by
  rcases DataW.trod_slice hu h with ⟨rfl, _⟩ | ⟨a, len, cap, elems, rest, n, _, rfl, _, hb, hl, hm, hlen, hel, _, _⟩
  · exact ⟨[], ⟨none, 0, rfl, by simp, Nat.zero_le _, fun h => by simp at h⟩, by simp, fun x hx => by cases hx⟩
  · have hx : ∀ i, i < len → ∃ x : k.T, Wf k x ∧ ∃ ds, ds.length = k.sz ∧ Ro k w noCol x ds ∧ ∀ j u, ds[j]? = some u → w.cell? (a.add (i * k.sz + j)) = some u := by
      intro i hi
      have hy := hel i hi
      rw [List.getElem?_eq_getElem (by omega)] at hy
      simp only [Option.bind_eq_some_iff] at hy
      obtain ⟨ds, h3, h4⟩ := hy
      obtain ⟨x, hx, hw⟩ := ih n ds _ h4
      obtain ⟨g1, g2, g3⟩ := World.cells?_some h3
      refine ⟨x, hw, ds, g2.trans hc, hx, fun j u hu' => ?_⟩
      have hj : j < ds.length := (List.getElem?_eq_some_iff.1 hu').1
      have := g3 j (by omega)
      rw [Addr.add_add, hc] at this
      rw [this, hu']
    obtain ⟨xs, hlen', hq⟩ := list_of hx
    subst hlen'
    refine ⟨xs, ⟨some a, cap, rfl, hl, hm, fun _ => ⟨a, rfl, rfl, fun i hi => ?_⟩⟩, by omega, fun x hx => ?_⟩
    · obtain ⟨_, ds, q1, q2, q3⟩ := hq i hi
      exact ⟨ds, q1, q2, q3⟩
    · obtain ⟨i, hi, rfl⟩ := List.getElem_of_mem hx
      exact (hq i hi).1

mutual
theorem trod_ro {H : Type} {enc : TypeId × Value → H} {P : Program} {w : World} {held : Bool} {spare : Nat → Bool} : ∀ {k : K} {t : TypeId}, KOf P k t → ∀ (fuel : Nat) (cs : List Value) (x : DataW H × List MemPlace),
    DataW.trod enc P w 0 spare held fuel t cs = some x → ∃ x : k.T, Ro k w noCol x cs ∧ Wf k x
  | _, _, .int hu, fuel, cs, x, h => by
    obtain ⟨n, rfl, _, hw⟩ := DataW.trod_int hu h
    exact ⟨n, rfl, hw⟩
  | _, _, .bool hu, fuel, cs, x, h => by
    obtain ⟨n, rfl, _⟩ := DataW.trod_bool hu h
    exact ⟨n, rfl, trivial⟩
  | _, _, .str hu, fuel, cs, x, h => by
    obtain ⟨n, rfl, _, hw⟩ := DataW.trod_string hu h
    exact ⟨n, rfl, hw⟩
  | _, _, .sl hu hc hk, fuel, cs, x, h => by
    obtain ⟨xs, h1, h2⟩ := rol_of_trod hu hc (fun fuel cs x h => trod_ro hk fuel cs x h) h
    exact ⟨xs, h1, h2⟩
  | _, _, .rs hu hc hk, fuel, cs, x, h => by
    obtain ⟨xs, h1, h2⟩ := rol_of_trod hu hc (fun fuel cs x h => trod_ro hk fuel cs x h) h
    exact ⟨xs, h1, h2⟩
  | k, t, .st (fs := fs) hu hc hk, fuel, cs, x, h => by
    obtain ⟨xs, n, _, _, hl, hlen, hf⟩ := DataW.trod_struct hu h
    have := trod_fs hk n cs xs (by omega) (by simpa using hlen) (fun i f hi => hf i f (by simpa using hi))
    simpa using this
theorem trod_fs {H : Type} {enc : TypeId × Value → H} {P : Program} {w : World} {held : Bool} {spare : Nat → Bool} : ∀ {k : K} {fs : List Field} {o : Nat}, KFs P k fs o → ∀ (fuel : Nat) (cs : List Value) (xs : List (DataW H × List MemPlace)),
    cs.length = o + k.sz → xs.length = fs.length → (∀ (i : Nat) f, fs[i]? = some f → DataW.trod enc P w 0 spare held fuel f.type ((cs.drop f.offset).take (P.cellsOf f.type)) = xs[i]?) → ∃ x : k.T, Ro k w noCol x (cs.drop o) ∧ Wf k x
  | k, _, _, .one (fd := fd) (o := o) ho hc hk, fuel, cs, xs, hl, hx0, h => by
    have hy := h 0 fd rfl
    rw [List.getElem?_eq_getElem (by simp [hx0])] at hy
    obtain ⟨x, hx, hw⟩ := trod_ro hk fuel _ _ hy
    refine ⟨x, ?_, hw⟩
    rw [ho, hc, List.take_of_length_le (by simp only [List.length_drop]; omega)] at hx
    exact hx
  | _, _, _, .cons (a := a) (b := b) (fd := fd) (fs := fs) (o := o) ho hc hk hs, fuel, cs, xs, hl, hx0, h => by
    have hl' : cs.length = o + (a.sz + b.sz) := hl
    have hy := h 0 fd rfl
    rw [List.getElem?_eq_getElem (by simp [hx0])] at hy
    obtain ⟨x, hx, hw⟩ := trod_ro hk fuel _ _ hy
    obtain ⟨x2, hx2, hw2⟩ := trod_fs hs fuel cs xs.tail (by omega) (by simp [hx0]) (fun i f hi => by
      have := h (i + 1) f (by simpa using hi)
      rw [this]; cases xs <;> simp)
    refine ⟨(x, x2), ⟨_, _, ?_, hx, hx2⟩, hw, hw2⟩
    rw [ho, hc, ← List.drop_drop, List.take_append_drop]
end

def K.low : K → Bool
  | .sl _ _ => false
  | .pair a b => a.low && b.low
  | _ => true

theorem ro_lv {w : World} {φ : Col} : ∀ {k : K} (base : Nat) {x : k.T} {cs : List Value}, k.low = true → Ro k w φ x cs → LvC w φ base k x cs
  | .int _, _, _, _, _, h => h
  | .bool, _, _, _, _, h => h
  | .str, _, _, _, _, h => h
  | .sl _ _, _, _, _, hl, _ => by cases hl
  | .rs _ _, _, _, _, _, h => h
  | .pair a b, base, x, cs, hl, h => by
    simp only [K.low, Bool.and_eq_true] at hl
    obtain ⟨c0, c1, h1, h2, h3⟩ := h
    exact ⟨c0, c1, h1, ro_lv base hl.1 h2, ro_lv _ hl.2 h3⟩

inductive PsOf (P : Program) : List PK → List TypeId → Prop
  | nil : PsOf P [] []
  | st {k : K} {t : TypeId} {fs : Array Field} {ps : List PK} {ts : List TypeId} : P.underlying t = some (.struct fs) → KOf P k t → k.low = true → PsOf P ps ts → PsOf P (.val true k false :: ps) (t :: ts)
  | one {k : K} {t : TypeId} {ps : List PK} {ts : List TypeId} : KOf P k t → (∀ fs, P.underlying t ≠ some (.struct fs)) → k.low = true → k.sz = 1 → PsOf P ps ts → PsOf P (.val false k false :: ps) (t :: ts)

def WfAll : (ps : List PK) → Ts (ins ps) → Prop
  | [], _ => True
  | .val _ k _ :: ps, x => Wf k x.1 ∧ WfAll ps x.2
  | .ptr k :: ps, x => Wf k x.1 ∧ WfAll ps x.2

theorem one_cells {P : Program} {w : World} {k : K} {t : TypeId} (h : KOf P k t) (hn : ∀ fs, P.underlying t ≠ some (.struct fs)) {v : Value} (ho : Value.okWide P w .any 0 t v) : v.cells.toList = [v] := by
  cases h with
  | int hu => obtain ⟨n, rfl⟩ := okWide_int hu ho; rfl
  | bool hu => obtain ⟨n, rfl⟩ := okWide_bool hu ho; rfl
  | str hu => obtain ⟨n, rfl⟩ := okWide_string hu ho; rfl
  | sl hu => obtain ⟨a, l, c, rfl⟩ := okWide_slice hu ho; rfl
  | rs hu => obtain ⟨a, l, c, rfl⟩ := okWide_slice hu ho; rfl
  | st hu => exact absurd hu (hn _)

theorem okWide_base {P : Program} {w : World} {base : Nat} {t : TypeId} {fs : Array Field} (hu : P.underlying t = some (.struct fs)) {v : Value} (ho : Value.okWide P w .any base t v) : ∃ cs : Array Value, v = .agg cs := by
  obtain ⟨cs, h, _⟩ := okWide_struct hu ho
  exact ⟨cs, h⟩

theorem one_cells' {P : Program} {w : World} {base : Nat} {k : K} {t : TypeId} (h : KOf P k t) (hn : ∀ fs, P.underlying t ≠ some (.struct fs)) {v : Value} (ho : Value.okWide P w .any base t v) : v.cells.toList = [v] := by
  cases h with
  | int hu => obtain ⟨n, rfl⟩ := okWide_int hu ho; rfl
  | bool hu => obtain ⟨n, rfl⟩ := okWide_bool hu ho; rfl
  | str hu => obtain ⟨n, rfl⟩ := okWide_string hu ho; rfl
  | sl hu => obtain ⟨a, l, c, rfl⟩ := okWide_slice hu ho; rfl
  | rs hu => obtain ⟨a, l, c, rfl⟩ := okWide_slice hu ho; rfl
  | st hu => exact absurd hu (hn _)

theorem args_ok {H : Type} {enc : TypeId × Value → H} {P : Program} {W : World} {held : Bool} {spare : Nat → Bool} {base : Nat} (pls : Nat → Plc) : ∀ {ps : List PK} {ts : List TypeId}, PsOf P ps ts → ∀ (i : Nat) {vs : List Value} {ds : List (DataW H)} {pp : List MemPlace},
    DataW.TrodAll enc P W 0 spare held ts vs ds pp → (∀ (j : Nat) t v, ts[j]? = some t → vs[j]? = some v → Value.okWide P W .any base t v) →
    ∃ x : Ts (ins ps), ArgsC W noCol pls i ps x vs ∧ WfAll ps x := by
  intro ps ts h
  induction h with
  | nil =>
    intro i vs ds pp h _
    obtain ⟨rfl, _, _⟩ := trodAll_nil h
    exact ⟨(), rfl, trivial⟩
  | st hu hk hl _ ih =>
    intro i vs ds pp h hv
    obtain ⟨v, vs, d, ds, p, q, rfl, rfl, rfl, h1, h2⟩ := trodAll_cons h
    obtain ⟨x, hx, hw⟩ := ih (i + 1) h2 (fun j t v a b => hv (j + 1) t v (by simpa using a) (by simpa using b))
    obtain ⟨fuel, h1⟩ := h1
    obtain ⟨y, hy, hw'⟩ := trod_ro hk fuel _ _ h1
    obtain ⟨cs, rfl⟩ := okWide_base hu (hv 0 _ _ rfl rfl)
    exact ⟨(y, x), ⟨_, vs, by simp [toV, Value.cells], ro_lv _ hl hy, .inl rfl, hx⟩, hw', hw⟩
  | one hk hn hl hz _ ih =>
    intro i vs ds pp h hv
    obtain ⟨v, vs, d, ds, p, q, rfl, rfl, rfl, h1, h2⟩ := trodAll_cons h
    obtain ⟨x, hx, hw⟩ := ih (i + 1) h2 (fun j t v a b => hv (j + 1) t v (by simpa using a) (by simpa using b))
    obtain ⟨fuel, h1⟩ := h1
    have hc := one_cells' hk hn (hv 0 _ _ rfl rfl)
    rw [hc] at h1
    obtain ⟨y, hy, hw'⟩ := trod_ro hk fuel _ _ h1
    exact ⟨(y, x), ⟨_, vs, rfl, ro_lv _ hl hy, .inr hz, hx⟩, hw', hw⟩

theorem trodAll_below {H : Type} {enc : TypeId × Value → H} {P : Program} (hl : laidOutB P = true) {W W' : World} (hb : Below W.heap.size W W') : ∀ {ts : List TypeId} {vs : List Value} {ds : List (DataW H)} {pp : List MemPlace},
    (∀ t ∈ ts, P.readableRec t = true ∧ t < P.types.size) → DataW.TrodAll enc P W 0 (fun _ => true) true ts vs ds pp → DataW.TrodAll enc P W' 0 (fun b => decide (b < W.heap.size)) true ts vs ds pp
  | [], _, _, _, _, h => by
    obtain ⟨rfl, rfl, rfl⟩ := trodAll_nil h
    exact trodAll_mk0
  | t :: ts, _, _, _, hr, h => by
    obtain ⟨v, vs, d, ds, p, q, rfl, rfl, rfl, h1, h2⟩ := trodAll_cons h
    have hlt : ∀ x ∈ p, x.block < W.heap.size := by
      obtain ⟨m, hm⟩ := h1
      exact DataW.trod_lt m _ _ _ hm
    exact ⟨p, q, Below.trod hl (hr t (by simp)).1 (hr t (by simp)).2 h1 hb hlt, trodAll_below hl hb (fun t ht => hr t (by simp [ht])) h2, rfl⟩

theorem law_calls {P : Program} {f : Nat} {ps : List PK} {g : Ts (ins ps) → Option (Ts (outs [RK.val false .bool] ps))} (hS : Sound P f ⟨ps, [RK.val false .bool], g⟩) (hg : ∀ x, WfAll ps x → ∃ y, g x = some (true, y))
    {ts : List TypeId} (hp : PsOf P ps ts) {H : Type} {enc : TypeId × Value → H} {W : World} {base : Nat} {args : Array Value} {ds : List (DataW H)} {pp : List MemPlace} {spare : Nat → Bool} {held : Bool}
    (hA : DataW.TrodAll enc P W 0 spare held ts args.toList ds pp) (hval : ∀ (j : Nat) t v, ts[j]? = some t → args[j]? = some v → Value.okWide P W .any base t v) :
    Calls P f args W fun e W' => e = .returned (.bool true) ∧ Below W.heap.size W W' := by
  obtain ⟨x, hx, hw⟩ := args_ok (fun _ => ⟨0, 0, [], []⟩) hp 0 hA (fun j t v a b => hval j t v a (by simpa using b))
  obtain ⟨y, hy⟩ := hg x hw
  have h := hS x _ hy W noCol _ _ hx
  simp only [Array.toArray_toList] at h
  refine h.mono fun e W' ⟨φ', vals, he, hk, hf, hl, ho⟩ => ?_
  obtain ⟨cs, r, rfl, h1, _, h2, _⟩ := ho
  cases h1
  subst h2
  refine ⟨he, hl.os, hl.tape, hl.output, hl.size, fun b hb => (hk b rfl hb).1⟩

theorem trodAll_len {H : Type} {enc : TypeId × Value → H} {P : Program} {W : World} {held : Bool} {spare : Nat → Bool} : ∀ {ts : List TypeId} {vs : List Value} {ds : List (DataW H)} {pp : List MemPlace},
    DataW.TrodAll enc P W 0 spare held ts vs ds pp → ds.length = ts.length
  | [], _, _, _, h => by
    obtain ⟨_, rfl, _⟩ := trodAll_nil h
    rfl
  | t :: ts, _, _, _, h => by
    obtain ⟨v, vs, d, ds, p, q, rfl, rfl, rfl, h1, h2⟩ := trodAll_cons h
    simp [trodAll_len h2]

theorem law_lifted {C : Checked} {os : Os} {f : FuncId} {fn : Func} {s : ChangeSpec} {conds : List PathCond} (own : ownKnob C.prog.godebug = none) (started : os.Started) (noInit : C.prog.inits.idxOf? f = none) (hfn : C.prog.funcs[f]? = some fn)
    {H : Type} {enc : TypeId × Value → H}
    (witness : ∃ (w : World) (tape : Tape) (i : Input), w.os = os ∧ (w.forCall tape i).Shaped C.prog ∧ i.vars = [] ∧ Input.okWide C.prog (w.forCall tape i) .any w.heap.size f i ∧
      s.pre6 enc C.prog fn conds false (w.forCall tape i).memory i.args ∧ ({} : Assume).holds C.prog (lone (Frame.enter C.prog f i.args .normal) [] (w.forCall tape i)))
    {ps : List PK} {g : Ts (ins ps) → Option (Ts (outs [RK.val false .bool] ps))} (hS : Sound C.prog f ⟨ps, [RK.val false .bool], g⟩) (hg : ∀ x, WfAll ps x → ∃ y, g x = some (true, y))
    {ts : List TypeId} (hts : fn.params.toList = ts) (hp : PsOf C.prog ps ts) {tb : TypeId} (hres : fn.resultTypes = #[tb]) (hb : C.prog.underlying tb = some .bool)
    (hlaid : laidOutB C.prog = true) (hread : ∀ t ∈ ts, C.prog.readableRec t = true ∧ t < C.prog.types.size) (hvars : s.vars = [])
    (hs : ∀ ds : List (DataW H), ds.length = ts.length → s.fn H ds = ⟨[.lit (.bool true)], ds, []⟩) :
    ReturnsInHanded {} C os f .any (s.pre6 enc C.prog fn conds false) (s.post enc C.prog fn false true false false) := by
  refine returnsInHanded_of_change_sized own started noInit hfn witness ?_
  intro W base args ds gs before hval hW hcnd hsz _
  have hW' := hW
  obtain ⟨p, q, hA, hV, rfl, hfz, hnd⟩ := hW
  rw [hvars] at hV
  obtain ⟨rfl, rfl⟩ := trodVars_none hV
  rw [hts] at hA
  have hlen : ds.length = ts.length := trodAll_len hA
  refine (law_calls hS hg hp hA (fun j t v a b => hval j t v (by rw [← hts] at a; simpa using a) b)).mono fun e W' ⟨he, bel⟩ => ?_
  subst he
  have e1 : s.fn H (ds ++ []) = ⟨[.lit (.bool true)], ds, []⟩ := by rw [List.append_nil]; exact hs ds hlen
  refine ⟨_, rfl, ds, [], _, [], p, [], hW', ?_, ?_, ?_, bel.frame _, fun h => by cases h⟩
  · rw [e1, hres]
    exact trodAll_mk1 ⟨1, by simp [DataW.trod, Value.cells, hb]⟩
  · rw [e1, hts]
    exact trodAll_below hlaid bel hread hA
  · rw [e1, hvars]
    rfl
end Go.Proofs.Ytlgbhpphfimdbaa.Ev
