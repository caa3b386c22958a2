/- Out of a function: its results' values. -/
import Derived.Test.YtlgbhpphfimdbaaEv35
namespace Go.Proofs.Ytlgbhpphfimdbaa.Ev
set_option linter.unusedVariables false
set_option linter.unusedSimpArgs false

def resAV (cfg : Cfg) (s : St) : ResultVar → Option AV
  | .tmp t => s.getT t
  | .cell a T => match s.getT a, cfg.ty T with
    | some (.one (.ptr b off)), some ti => match s.getB b with
      | some c => match Nat.beq ((c.drop off).take ti.k.sz).length ti.k.sz with
        | true => partAV ti.agg ((c.drop off).take ti.k.sz)
        | false => none
      | none => none
    | _, _ => none

def resRun (tmps : Array Value) : ResultVar → Sem Value
  | .tmp t => pure (tmps.getD t undef)
  | .cell a t => do loadVar t (← asAddr (tmps.getD a undef))

theorem resAV_ok {P : Program} {cfg : Cfg} (hc : CfgOk P cfg) {s : St} {rv : ResultVar} {v : AV} (h : resAV cfg s rv = some v) {n : Nat} {w0 : World} {φ0 : Gh} {a : Act} {m : Mem} (hr : Rel n w0 φ0 s a m) :
    ∃ val, (resRun a.tmps rv).run P m.w = .ok val m.w ∧ AVC s m v val := by
  cases rv with
  | tmp t =>
    simp only [resAV] at h
    exact ⟨_, rfl, hr.tm t v (St.getT_some.1 h)⟩
  | cell x T =>
    simp only [resAV] at h
    split at h
    · rename_i b off ti e1 et
      split at h
      · rename_i c ec
        split at h
        · rename_i el
          have hb := St.getB_some.1 ec
          have hx := (hr.tm x _ (St.getT_some.1 e1)).2 c hb
          obtain ⟨cs, hcs, _, _, hg⟩ := hr.bx b c hb
          obtain ⟨y, hy, hv⟩ := run_loadVar (P := P) hc et h (Nat.eq_of_beq_eq_true el) ((hcs.drop off).take ti.k.sz) (ad := ⟨(m.β b).g, (m.β b).pre.length + off, none⟩) (fun j u hu => by
            have hj := (List.getElem?_eq_some_iff.1 hu).1
            have hj' : j < ti.k.sz := by rw [List.length_take] at hj; omega
            rw [List.getElem?_take_of_lt hj', List.getElem?_drop] at hu
            rw [add_plain, cell_of_row m.w _ _ _ _ _ hg]
            have hlt := (List.getElem?_eq_some_iff.1 hu).1
            rw [List.getElem?_toArray, List.append_assoc, List.getElem?_append_right (by omega), List.getElem?_append_left (by omega)]
            rw [← hu]; congr 1; omega)
          refine ⟨y, ?_, hv⟩
          simp only [resRun]
          rw [hx]
          simp [asAddr, Sem.run_bind, hy]
        · cases h
      · cases h
    · cases h

def resAVs (cfg : Cfg) (s : St) : List ResultVar → Option (List AV)
  | [] => some []
  | rv :: rvs => match resAV cfg s rv, resAVs cfg s rvs with
    | some v, some vs => some (v :: vs)
    | _, _ => none

theorem resAVs_ok {P : Program} {cfg : Cfg} (hc : CfgOk P cfg) {s : St} {n : Nat} {w0 : World} {φ0 : Gh} {a : Act} {m : Mem} (hr : Rel n w0 φ0 s a m) : ∀ {rvs : List ResultVar} {vs : List AV}, resAVs cfg s rvs = some vs →
    ∃ vals, (rvs.mapM (resRun a.tmps)).run P m.w = .ok vals m.w ∧ All2 (AVC s m) vs vals
  | [], vs, h => by
    simp only [resAVs] at h; injection h with h; subst h
    exact ⟨[], by simp, trivial⟩
  | rv :: rvs, vs, h => by
    simp only [resAVs] at h
    split at h
    · rename_i v vs' e1 e2
      injection h with h; subst h
      obtain ⟨val, h1, h2⟩ := resAV_ok hc e1 hr
      obtain ⟨vals, h3, h4⟩ := resAVs_ok hc hr e2
      exact ⟨val :: vals, by simp [List.mapM_cons, Sem.run_bind, h1, h3], h2, h4⟩
    · cases h

theorem results_ok {P : Program} {cfg : Cfg} (hc : CfgOk P cfg) {s : St} {n : Nat} {w0 : World} {φ0 : Gh} {a : Act} {m : Mem} (hr : Rel n w0 φ0 s a m) {fn : Func} {vs : List AV} (h : resAVs cfg s fn.results.toList = some vs) :
    ∃ vals, (results fn a.tmps).run P m.w = .ok (pack vals) m.w ∧ All2 (AVC s m) vs vals := by
  obtain ⟨vals, h1, h2⟩ := resAVs_ok hc hr h
  refine ⟨vals, ?_, h2⟩
  have e : fn.results.mapM (resRun a.tmps) = List.toArray <$> fn.results.toList.mapM (resRun a.tmps) := Array.mapM_eq_mapM_toList
  have hres : results fn a.tmps = (do
    let vs ← fn.results.mapM (resRun a.tmps)
    pure (if h : vs.size = 1 then vs[0] else .tuple vs)) := by
    unfold results
    congr 1
  rw [hres, e]
  simp only [Sem.run_bind, map_eq_pure_bind, h1, Result.andThen_ok]
  cases vals with
  | nil => simp [pack]
  | cons v vals =>
    cases vals with
    | nil => simp [pack]
    | cons v2 vals => simp [pack]

end Go.Proofs.Ytlgbhpphfimdbaa.Ev
