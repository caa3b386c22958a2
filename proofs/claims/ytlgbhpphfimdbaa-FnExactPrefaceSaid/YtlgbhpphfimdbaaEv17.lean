/- Evaluating a store. -/
import Derived.Test.YtlgbhpphfimdbaaEv16
namespace Go.Proofs.Ytlgbhpphfimdbaa.Ev
set_option linter.unusedVariables false
set_option linter.unusedSimpArgs false

/-- A stretch put into a list. -/
def spl {α : Type} (L : List α) (o : Nat) (V : List α) : List α := L.take o ++ V ++ L.drop (o + V.length)
theorem spl_len {α : Type} {L V : List α} {o : Nat} (h : o + V.length ≤ L.length) : (spl L o V).length = L.length := by
  simp only [spl, List.length_append, List.length_take, List.length_drop]; omega
theorem spl_get {α : Type} {L V : List α} {o : Nat} (h : o + V.length ≤ L.length) (q : Nat) : (spl L o V)[q]? = if q < o then L[q]? else if q < o + V.length then V[q - o]? else L[q]? := by
  have h1 : (L.take o).length = o := by rw [List.length_take]; omega
  by_cases c1 : q < o
  · rw [if_pos c1, spl, List.append_assoc, List.getElem?_append_left (by rw [h1]; exact c1), List.getElem?_take_of_lt c1]
  · rw [if_neg c1, spl, List.append_assoc, List.getElem?_append_right (by omega), h1]
    by_cases c2 : q < o + V.length
    · rw [if_pos c2, List.getElem?_append_left (by omega)]
    · rw [if_neg c2, List.getElem?_append_right (by omega), List.getElem?_drop]
      congr 1; omega
theorem spl_mid {α : Type} {A B C V : List α} {o : Nat} (h : o + V.length ≤ B.length) : spl (A ++ B ++ C) (A.length + o) V = A ++ spl B o V ++ C := by
  have hl := spl_len h
  have h' : A.length + o + V.length ≤ (A ++ B ++ C).length := by simp only [List.length_append]; omega
  apply List.ext_getElem?
  intro q
  rw [spl_get h', List.append_assoc A B C, List.append_assoc A (spl B o V) C]
  simp only [List.getElem?_append, hl, spl_get h]
  by_cases c1 : q < A.length
  · simp [c1, show q < A.length + o by omega]
  · simp only [c1, if_false]
    by_cases c2 : q - A.length < B.length
    · simp only [c2, if_true]
      by_cases c3 : q < A.length + o
      · simp only [c3, if_true, show q - A.length < o by omega]
      · simp only [c3, if_false, show ¬ q - A.length < o by omega]
        by_cases c4 : q < A.length + o + V.length
        · simp only [c4, if_true, show q - A.length < o + V.length by omega]; congr 1; omega
        · simp only [c4, if_false, show ¬ q - A.length < o + V.length by omega]
    · simp only [c2, if_false, show ¬ q < A.length + o by omega, show ¬ q < A.length + o + V.length by omega]
theorem spl_take {α : Type} {L V : List α} {o n : Nat} (h : o + V.length ≤ n) (hn : n ≤ L.length) : (spl L o V).take n = spl (L.take n) o V := by
  have hl : o + V.length ≤ (L.take n).length := by rw [List.length_take]; omega
  apply List.ext_getElem?
  intro q
  rw [List.getElem?_take, spl_get hl, spl_get (by omega)]
  simp only [List.getElem?_take]
  by_cases c : q < n
  · simp [c]
  · simp only [c, if_false]
    rw [if_neg (by omega), if_neg (by omega)]
theorem spl_seg {α : Type} {L V : List α} {sz i off : Nat} (h : off + V.length ≤ sz) (hi : i * sz + sz ≤ L.length) : ((spl L (i * sz + off) V).drop (i * sz)).take sz = spl ((L.drop (i * sz)).take sz) off V := by
  have hl : off + V.length ≤ ((L.drop (i * sz)).take sz).length := by rw [List.length_take, List.length_drop]; omega
  apply List.ext_getElem?
  intro q
  rw [List.getElem?_take, spl_get hl, List.getElem?_drop, spl_get (by omega)]
  simp only [List.getElem?_take, List.getElem?_drop]
  by_cases c : q < sz
  · simp only [c, if_true]
    by_cases c1 : q < off
    · rw [if_pos c1, if_pos (by omega)]
    · rw [if_neg c1, if_neg (by omega)]
      by_cases c2 : q < off + V.length
      · rw [if_pos c2, if_pos (by omega)]; congr 1; omega
      · rw [if_neg c2, if_neg (by omega)]
  · simp only [c, if_false]
    rw [if_neg (by omega), if_neg (by omega)]
theorem spl_other {α : Type} {L V : List α} {sz i j off : Nat} (h : off + V.length ≤ sz) (hi : i * sz + sz ≤ L.length) (hij : j ≠ i) : ((spl L (i * sz + off) V).drop (j * sz)).take sz = (L.drop (j * sz)).take sz := by
  apply List.ext_getElem?
  intro q
  rw [List.getElem?_take, List.getElem?_drop, spl_get (by omega), List.getElem?_take, List.getElem?_drop]
  by_cases c : q < sz
  · simp only [c, if_true]
    have : j * sz + sz ≤ i * sz ∨ i * sz + sz ≤ j * sz := by
      rcases Nat.lt_or_gt_of_ne hij with hlt | hlt
      · exact .inl (by rw [← Nat.succ_mul]; exact Nat.mul_le_mul_right _ hlt)
      · exact .inr (by rw [← Nat.succ_mul]; exact Nat.mul_le_mul_right _ hlt)
    rcases this with hh | hh
    · rw [if_pos (by omega)]
    · rw [if_neg (by omega), if_neg (by omega)]
  · simp only [c, if_false]

theorem run_storeVar {P : Program} {cfg : Cfg} (hc : CfgOk P cfg) {t : Nat} {ti : TyI} (ht : cfg.ty t = some ti) {w : World} {g o T : Nat} {cur : Array Value} {cs : List Value} {v : Value} (hv : v.cells = cs.toArray) (hl : cs.length = ti.k.sz)
    {fz : Nat × Nat} (hg : w.heap[g]? = some (.cells cur T fz)) (hfz : Thawed cur.size fz) (hfit : o + cs.length ≤ cur.size) (h1 : ∀ u ∈ cs, u.oneCell' = true) :
    (storeVar t ⟨g, o, none⟩ v).run P w = .ok () (w.setRow g (cur.toList.take o ++ cs ++ cur.toList.drop (o + cs.length)).toArray) := by
  obtain ⟨f, z, hi, hs, _⟩ := hc.info ht
  have hst := run_storeCells_atM P g o T fz cs 0 cur w hg hfz (by simpa using hfit) h1
  simp only [Nat.add_zero] at hst
  have hne : ¬ (v.cells.size ≠ ti.k.sz) := by rw [hv]; simp [hl]
  simp only [storeVar, Sem.run_bind, run_size hi, hs, Result.andThen_ok, if_neg hne, Sem.run_pure]
  rw [hv]; exact hst

theorem setRow_only {w : World} {φ : Col} {g r : Nat} (cells : Array Value) (hφ : ∃ q, φ g = some (r :: q)) : Only w (w.setRow g cells) φ φ r := by
  intro b hb hq
  obtain ⟨q, hφ⟩ := hφ
  have hne : b ≠ g := fun e => hq q (by rw [e]; exact hφ)
  exact ⟨setRow_other w g b _ hne, rfl⟩

def xStore {R : Type} (cfg : Cfg) (s : St) (t : Nat) (x y : Operand) (κ : Ke R) : Option R :=
  match opnd s x, opnd s y, cfg.ty t with
  | some (.one l, rx), some (v, ry), some ti => match avL v with
    | some ls => match Nat.beq ls.length ti.k.sz with
      | true => match l with
        | .ptr b off => match s.getB b with
          | some c => match Nat.ble (off + ls.length) c.length with
            | true => κ ⟨rx ++ ry ++ [(.b b, .b c)], [(.b b, some (.b (c.take off ++ ls ++ c.drop (off + ls.length))))], []⟩
            | false => none
          | none => none
        | .ept id q off => match s.getR id, s.getX q with
          | some r, some i => match putL s r.k (rd r.k r.xs i) off ls [] with
            | some (y, [], mv) => match nodupB (mv.map (·.1)), (mv.map (·.1)).any (Nat.beq id) with
              | true, false => κ ⟨rx ++ ry ++ [(.r id, .r r), (.x q, .x i)] ++ mvR mv, (.r id, some (.r ⟨r.e, r.k, r.xs.set i.toNat y, r.ver + 1⟩)) :: (mv.map (·.1)).map (fun i => (Loc.r i, (none : Option LV))), []⟩
              | _, _ => none
            | _ => none
          | _, _ => none
        | _ => none
      | false => none
    | none => none
  | _, _, _ => none

theorem xStore_ok {R : Type} {P : Program} {cfg : Cfg} (hc : CfgOk P cfg) {s : St} {t : Nat} {x y : Operand} {κ : Ke R} {r : R} (h : xStore cfg s t x y κ = some r) : OutS P s (.store t x y) κ r := by
  unfold xStore at h
  split at h
  · rename_i l rx v ry ti ex ey et
    split at h
    · rename_i ls el
      split at h
      · rename_i hlen
        have hlen := Nat.eq_of_beq_eq_true hlen
        have hrun : ∀ (a : Act) (w w' : World) (oo : Oper) (ad : Addr), oo.op = .store t x y → a.eval x = .pointer (some ad) → (storeVar t ad (a.eval y)).run P w = .ok () w' → (execOp a.eval oo).run P w = .ok .skip w' := by
          intro a w w' oo ad ho hx hy
          simp [execOp, ho, hx, Instr.storeAt, Instr.sureAddr, Sem.run_bind, hy]
        split at h
        · rename_i b off
          split at h
          · rename_i c ec
            split at h
            · rename_i hfit
              have hfit := Nat.le_of_ble_eq_true hfit
              refine ⟨_, h, Reads.app.2 ⟨Reads.app.2 ⟨opnd_reads ex, opnd_reads ey⟩, fun p hp => by rw [List.mem_singleton.1 hp]; exact St.getB_some.1 ec⟩, fun n o ho hdst w0 φ0 s' a m hr hrd hnew next Q hn => ?_⟩
              have hrdA := Reads.app.1 (Reads.app.1 hrd).1
              have hb := (Reads.app.1 hrd).2 (.b b, .b c) (by simp)
              have hx := (opnd_ok ex hr hrdA.1).2 c hb
              obtain ⟨vs, hvs, hl⟩ := av_cells el (opnd_ok ey hr hrdA.2)
              obtain ⟨cs, hcs, h1, hcol, hg⟩ := hr.bx b c hb
              have hvl := hl.len
              have hcl := hcs.len
              have hst := run_storeVar (P := P) hc et (o := (m.β b).pre.length + off) hvs (by rw [← hvl]; exact hlen) hg (.inl rfl) (by simp; omega) (All2.one hl)
              have e1 : (((m.β b).pre ++ cs ++ (m.β b).post).toArray.toList.take ((m.β b).pre.length + off) ++ vs ++ ((m.β b).pre ++ cs ++ (m.β b).post).toArray.toList.drop ((m.β b).pre.length + off + vs.length)) =
                  (m.β b).pre ++ (cs.take off ++ vs ++ cs.drop (off + ls.length)) ++ (m.β b).post := by
                rw [hvl]; exact spl_mid (by omega)
              rw [e1] at hst
              have h2 := hr.setBox (c' := c.take off ++ ls ++ c.drop (off + ls.length)) (cs := cs.take off ++ vs ++ cs.drop (off + ls.length)) hb (w' := m.w.setRow (m.β b).g ((m.β b).pre ++ (cs.take off ++ vs ++ cs.drop (off + ls.length)) ++ (m.β b).post).toArray)
                (setRow_only _ ⟨[], hcol⟩) (by simp) rfl rfl rfl (((hcs.take off).app hl).app (hcs.drop _)) (fun l' hl' q hq => by
                  rcases List.mem_append.1 hl' with hl' | hl'
                  · rcases List.mem_append.1 hl' with hl' | hl'
                    · exact ⟨.b b, .b c, hb, List.mem_flatMap.2 ⟨l', List.mem_of_mem_take hl', hq⟩⟩
                    · exact opnd_live ey hrdA.2 q (avL_men el l' hl' q hq)
                  · exact ⟨.b b, .b c, hb, List.mem_flatMap.2 ⟨l', List.mem_of_mem_drop hl', hq⟩⟩) (setRow_heap m.w _ _ _ _ _ hg)
              have hrun' := hrun a m.w _ o _ ho hx hst
              simp only [Oper.wp, hrun', Oper.upon, hdst]
              exact hn _ _ h2
            · cases h
          · cases h
        · rename_i id q off
          split at h
          · rename_i row i er ei
            split at h
            · rename_i yy mv ep
              split at h
              · rename_i hnd hni
                refine ⟨_, h, Reads.app.2 ⟨Reads.app.2 ⟨Reads.app.2 ⟨opnd_reads ex, opnd_reads ey⟩, fun p hp => ?_⟩, putL_reads ep⟩, fun n o ho hdst w0 φ0 s' a m hr hrd hnew next Q hn => ?_⟩
                · simp only [List.mem_cons, List.not_mem_nil, or_false] at hp
                  rcases hp with rfl | rfl
                  · exact St.getR_some.1 er
                  · exact St.getX_some.1 ei
                · have hrdM := (Reads.app.1 hrd).2
                  have hrd1 := Reads.app.1 (Reads.app.1 hrd).1
                  have hrdA := Reads.app.1 hrd1.1
                  have hrow := hrd1.2 (.r id, .r row) (by simp)
                  have hix := hrd1.2 (.x q, .x i) (by simp)
                  obtain ⟨hx1, hx2, hx⟩ := (opnd_ok ex hr hrdA.1).2 row i hrow hix
                  obtain ⟨vs, hvs, hl⟩ := av_cells el (opnd_ok ey hr hrdA.2)
                  have hvl := hl.len
                  obtain ⟨inner, hown, hcol, hels⟩ := hr.rw id row hrow
                  have hnm : id ∉ mv.map (·.1) := by
                    intro hh
                    have := List.any_eq_false.1 hni id hh
                    simp at this
                  let tg := tgOf [2 * id, i.toNat] mv
                  let φ1 := recol tg m.φ
                  have hother : ∀ p, Moves m.w m.w m.φ φ1 (2 * id :: p) (2 * id :: p) := recol_other (lookR_none fun v hv e => hnm (by
                    have : v.1 = id := by omega
                    rw [← this, ← tgOf_ids [2 * id, i.toNat]]
                    exact List.mem_map.2 ⟨v, hv, rfl⟩))
                  rcases hown.2 with ⟨e0, hn0⟩ | ⟨g, cap, cur, fz, e0, _, hg, hfz, hnc, hcap, hcs, ht⟩
                  · omega
                  · have hcolg := hcol g (by rw [e0]; rfl)
                    have hinl := hown.1
                    have hi2 : i.toNat * row.k.sz + row.k.sz ≤ inner.length := by rw [hinl, ← Nat.succ_mul]; exact Nat.mul_le_mul_right _ hx2
                    have how := hels i.toNat hx2
                    rw [← rd_eq hx2] at how
                    let w' := m.w.setRow g (cur.toList.take (i.toNat * row.k.sz + off) ++ vs ++ cur.toList.drop (i.toNat * row.k.sz + off + vs.length)).toArray
                    have hb' : ∀ b, b ≠ g → w'.heap[b]? = m.w.heap[b]? := fun b hb => setRow_other m.w g b _ hb
                    have hne : ∀ b r' q', φ1 b = some (r' :: q') → (r' ≠ 2 * id ∨ q' ≠ []) → b ≠ g := by
                      intro b r' q' hb hne e
                      subst e
                      have := (hother [] b [] hcolg (Array.getElem?_eq_some_iff.1 hg).1).2
                      rw [hb] at this
                      injection this with this
                      injection this with h1 h2
                      rcases hne with hne | hne
                      · exact hne h1
                      · exact hne h2
                    have hk' : Keeps m.w w' m.φ φ1 := fun b hb hlt => ⟨hb' b (fun e => by rw [e, hcolg] at hb; cases hb), (recol_keeps m.w tg m.φ b hb hlt).2⟩
                    have hdo : Does m.w w' m.φ φ1 [2 * id, i.toNat] mv := by
                      have h0 := does_recol (w := m.w) (φ := m.φ) (p0 := [2 * id, i.toNat]) hnd
                      intro v hv
                      have hbne : ∀ b q', m.φ b = some ([2 * v.1] ++ q') → b ≠ g := by
                        intro b q' hb e
                        rw [e, hcolg] at hb
                        injection hb with hb
                        injection hb with hb _
                        exact hnm (by rw [show id = v.1 by omega]; exact List.mem_map.2 ⟨v, hv, rfl⟩)
                      have hv0 := h0 v hv
                      cases hp : v.2.1 with
                      | some p => simp only [hp] at hv0 ⊢; exact fun b q' hb hlt => ⟨hb' b (hbne b q' hb), (hv0 b q' hb hlt).2⟩
                      | none => simp only [hp] at hv0 ⊢; exact fun b q' hb hlt => ⟨hb' b (hbne b q' hb), (hv0 b q' hb hlt).2⟩
                    have hmv : ∀ p, p ≠ [] → Moves m.w w' m.φ φ1 (2 * id :: p) (2 * id :: p) := by
                      intro p hp b q' hb hlt
                      have h0 := (hother p b q' hb hlt).2
                      exact ⟨hb' b (hne b (2 * id) (p ++ q') h0 (.inr (by simp [hp]))), h0⟩
                    obtain ⟨v0, v1, hv01, hle, hnew', hrest, _⟩ := putL_ok hr hk' [2 * id, i.toNat] ep hrdM hl hdo (cs := (inner.drop (i.toNat * row.k.sz)).take row.k.sz) (by simpa using how) (fun q' => by
                      have := hmv (i.toNat :: q') (by simp)
                      simpa using this)
                    have hv1 : v1 = [] := by cases v1 with
                      | nil => rfl
                      | cons _ _ => exact hrest.elim
                    subst hv1
                    rw [List.append_nil] at hv01
                    subst hv01
                    have hcurl : cur.toList.length = cap * row.k.sz := by rw [Array.length_toList]; exact hcs
                    have hcapl : row.xs.length * row.k.sz ≤ cap * row.k.sz := Nat.mul_le_mul_right _ hnc
                    have hst := run_storeVar (P := P) hc et (o := i.toNat * row.k.sz + off) hvs (by rw [← hvl]; exact hlen) hg hfz (by rw [← Array.length_toList, hcurl]; omega) (All2.one hl)
                    rw [e0, rowAddr_slice, add_plain, Nat.zero_add] at hx
                    have hrun' := hrun a m.w _ o _ ho hx hst
                    have h1 := hr.drop tg
                    rw [show tg.map (·.1) = mv.map (·.1) from tgOf_ids _ _] at h1
                    have hrow1 : St.get ((mv.map (·.1)).map (fun i => (Loc.r i, (none : Option LV))) ++ s') (.r id) = some (.r row) := by
                      rw [get_tomb fun j hj e => hnm (by injection e with e; rw [e]; exact hj)]; exact hrow
                    have h2 := h1.updRow (w' := w') hrow1 (row := ⟨row.e, row.k, row.xs.set i.toNat yy, row.ver + 1⟩) (by
                        intro b hb hq
                        have hbg : b ≠ g := fun e => hq [] (by rw [e]; exact (hother [] g [] hcolg (Array.getElem?_eq_some_iff.1 hg).1).2)
                        exact ⟨hb' b hbg, rfl⟩) (by simp [w']) rfl rfl rfl rfl (by simp) (by simp) (by
                      refine ⟨inner.take (i.toNat * row.k.sz + off) ++ vs ++ inner.drop (i.toNat * row.k.sz + off + vs.length), ⟨?_, .inr ⟨g, cap, _, fz, ?_, Nat.zero_le _, setRow_heap m.w g cur _ row.e _ hg, ?_, ?_, hcap, ?_, ?_⟩⟩, fun g' hg' => ?_, fun j hj => ?_⟩
                      · simp only [List.length_append, List.length_take, List.length_drop, List.length_set]; omega
                      · simpa using e0
                      · rw [show (cur.toList.take (i.toNat * row.k.sz + off) ++ vs ++ cur.toList.drop (i.toNat * row.k.sz + off + vs.length)).toArray.size = cur.size by
                          simp only [List.size_toArray, List.length_append, List.length_take, List.length_drop]; omega]
                        exact hfz
                      · simpa using hnc
                      · simp only [List.size_toArray, List.length_append, List.length_take, List.length_drop]; omega
                      · simp only [List.length_set]
                        rw [← ht]
                        exact spl_take (o := i.toNat * row.k.sz + off) (by have := ht ▸ hinl; omega) (by rw [hcurl]; exact hcapl)
                      · have : g' = g := by
                          rw [e0] at hg'; simp only [Value.ownBlock] at hg'; injection hg' with hg'; exact hg'.symm
                        subst this
                        exact (hother [] g' [] hcolg (Array.getElem?_eq_some_iff.1 hg).1).2
                      · simp only [List.length_set] at hj
                        by_cases hji : j = i.toNat
                        · subst hji
                          have e5 : (row.xs.set i.toNat yy)[i.toNat]'(by simpa using hj) = yy := List.getElem_set_self _
                          simp only [e5]
                          have e6 := spl_seg (L := inner) (V := vs) (off := off) hle hi2
                          simp only [spl] at e6
                          rw [e6]
                          exact hnew'
                        · have e5 : (row.xs.set i.toNat yy)[j]'(by simpa using hj) = row.xs[j] := List.getElem_set_ne (Ne.symm hji) _
                          simp only [e5]
                          have e6 := spl_other (L := inner) (V := vs) (off := off) (j := j) hle hi2 hji
                          simp only [spl] at e6
                          rw [e6]
                          exact (hels j hj).move (hmv [j] (by simp)) hk')
                    simp only [Oper.wp, hrun', Oper.upon, hdst]
                    exact hn _ _ h2
              · cases h
            · cases h
          · cases h
        · cases h
      · cases h
    · cases h
  · cases h

end Go.Proofs.Ytlgbhpphfimdbaa.Ev
