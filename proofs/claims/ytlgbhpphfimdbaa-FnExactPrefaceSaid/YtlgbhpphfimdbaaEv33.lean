/- A struct of its parts, evaluated. -/
import Derived.Test.YtlgbhpphfimdbaaEv32
namespace Go.Proofs.Ytlgbhpphfimdbaa.Ev
set_option linter.unusedVariables false
set_option linter.unusedSimpArgs false

theorem places_ok {P : Program} : ∀ {fs : List Field} {fl : List (Nat × Nat × Bool)}, fs.length = fl.length → (∀ (j : Nat) f, fl[j]? = some f → ∃ fd, fs[j]? = some fd ∧ FldOk P fd f) →
    fs.mapM (fun f => (P.info? f.type).map fun i => (f.offset, i.size)) = some (fl.map fun f => (f.1, f.2.1))
  | [], [], _, _ => by simp
  | [], _ :: _, h, _ => by simp at h
  | _ :: _, [], h, _ => by simp at h
  | fd :: fs, f :: fl, h, hf => by
    obtain ⟨fd', e, hk⟩ := hf 0 f rfl
    simp at e; subst e
    obtain ⟨i, hi, hs⟩ := hk.info
    have ih := places_ok (P := P) (fs := fs) (fl := fl) (by simpa using h) (fun j f' hj => by simpa using hf (j + 1) f' (by simpa using hj))
    simp only [List.mapM_cons, hi, Option.map_some, ih, hk.off, hs, List.map_cons]
    rfl

def pBuild {R : Type} (cfg : Cfg) (s : St) (t : Nat) (parts : Array (Nat × Operand)) (κ : Kp R) : Option R :=
  match cfg.ty t, partsL s parts.toList with
  | some ti, some (vs, rds) => match ti.agg, fillL ti.flds (zl ti.k) vs with
    | true, some ls => κ rds [] (.agg ls)
    | _, _ => none
  | _, _ => none

theorem pBuild_ok {R : Type} {P : Program} {cfg : Cfg} (hc : CfgOk P cfg) {s : St} {t : Nat} {parts : Array (Nat × Operand)} {κ : Kp R} {r : R} (h : pBuild cfg s t parts κ = some r) : OutP P s (.build t parts) κ r := by
  unfold pBuild at h
  split at h
  · rename_i ti vs rds et ep
    split at h
    · rename_i ls ea ef
      refine .mk' rds _ h (partsL_reads ep) fun n0 w0 φ0 s' a m oo ho hr hrd => ?_
      obtain ⟨f, z, hi, hs, hb, hz, hzc, hza⟩ := hc.info et
      obtain ⟨fs, hu, hfl, hfd⟩ := hc.st et ea
      have hpl := places_ok (P := P) (fs := fs.toList) (fl := ti.flds) (by simpa using hfl) (fun j f hj => by
        obtain ⟨fd, h1, h2⟩ := hfd j f hj
        exact ⟨fd, by rw [Array.getElem?_toList]; exact h1, h2⟩)
      obtain ⟨cs', hfill, hcs⟩ := fillL_ok (place := fun x => ((ti.flds.map fun f => (f.1, f.2.1)).toArray)[x]?) (s := s') (m := m) (fun i f hf => by simp [hf]) (cs := z.cells) ef (partsL_ok hr ep hrd) (by
        rw [hzc]; exact zl_ok _ _ _)
      have hbuilt : P.built t (parts.map fun (i, x) => (i, a.eval x)).toList = some cs' := by
        unfold Program.built
        simp only [hi, hu, hz, hpl]
        have : (parts.map fun (i, x) => (i, a.eval x)).toList = parts.toList.map fun p => (p.1, a.eval p.2) := by simp
        rw [this]
        exact hfill
      refine ⟨.agg cs', ?_, cs'.toList, by simp, hcs⟩
      simp [execOp, ho, Sem.run_bind, run_build m.w t _ cs' hbuilt]
    · cases h
  · cases h

end Go.Proofs.Ytlgbhpphfimdbaa.Ev
