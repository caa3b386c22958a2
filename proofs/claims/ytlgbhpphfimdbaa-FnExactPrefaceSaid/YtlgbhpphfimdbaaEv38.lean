/- Out of a function, and the contract that its evaluation proves. -/
import Derived.Test.YtlgbhpphfimdbaaEv37
namespace Go.Proofs.Ytlgbhpphfimdbaa.Ev
set_option linter.unusedVariables false
set_option linter.unusedSimpArgs false

def gKept (cfg : Cfg) (s : St) : Nat → (ps : List PK) → Ts (ins ps) → Option (Ts (kk ps) × List Hd × List Nat × List Bx)
  | _, [], _ => some ((), [], [], [])
  | i, .val g k true :: ps, x => match gv cfg s true (pR i) k (leaves k x.1 Lf.own (pR i)) with
    | some (y, [], hd, bo, _) => match gKept cfg s (i + 1) ps x.2 with
      | some (z, hd', bo', bx) => some ((y, z), hd ++ hd', bo ++ bo', bx)
      | none => none
    | _ => none
  | i, .val g k false :: ps, x => gKept cfg s (i + 1) ps x.2
  | i, .ptr k :: ps, x => match s.getB (pB i) with
    | some c => match gv cfg s false (pR i) k c with
      | some (y, [], hd, bo, _) => match gKept cfg s (i + 1) ps x.2 with
        | some (z, hd', bo', bx) => some ((y, z), hd ++ hd', bo ++ bo', ⟨pB i, 0, k.sz, i⟩ :: bx)
        | none => none
      | _ => none
    | none => none

def gRes (cfg : Cfg) (s : St) : Nat → (res : List RK) → (ps : List PK) → List AV → Ts (kk ps) → Option (Ts (outs res ps) × List Hd × List Nat)
  | _, [], _, [], y => some (y, [], [])
  | j, .val g k :: res, ps, v :: vs, y => match avG g k v with
    | some ls => match gv cfg s false (rR j) k ls with
      | some (x, [], hd, bo, _) => match gRes cfg s (j + 1) res ps vs y with
        | some (z, hd', bo') => some ((x, z), hd ++ hd', bo ++ bo')
        | none => none
      | _ => none
    | none => none
  | _, _, _, _, _ => none

def exitOk (hd : List Hd) (bo : List Nat) (bx : List Bx) : Bool :=
  nodupB ((tgHd hd bx).map (·.1)) && bo.all fun b => hd.all fun h => !(Nat.beq h.id b)

def exitV (cfg : Cfg) (rvs : List ResultVar) (res : List RK) (ps : List PK) (x : Ts (ins ps)) (s : St) : Option (Ts (outs res ps)) :=
  match resAVs cfg s rvs with
  | some vs => match gKept cfg s 0 ps x with
    | some (y, hd2, bo2, bx) => match gRes cfg s 0 res ps vs y with
      | some (z, hd1, bo1) => match exitOk (hd1 ++ hd2) (bo1 ++ bo2) bx with
        | true => some z
        | false => none
      | none => none
    | none => none
  | none => none

theorem leaves_init {w : World} {φ : Col} {s : St} {m : Mem} (hk : Keeps w m.w φ m.φ) : ∀ {k : K} {base nb : Nat} {x : k.T} {cs : List Value}, LvC w φ base k x cs →
    (∀ j v, cs[j]? = some v → (leafK k j).isSome = true → LfC s m (.own (nb + j)) v) → All2 (LfC s m) (leaves k x Lf.own nb) cs
  | .int _, _, _, _, _, h, _ => by simp only [LvC] at h; subst h; exact ⟨rfl, trivial⟩
  | .bool, _, _, _, _, h, _ => by simp only [LvC] at h; subst h; exact ⟨rfl, trivial⟩
  | .str, _, _, _, _, h, _ => by simp only [LvC] at h; subst h; exact ⟨rfl, trivial⟩
  | .rs e k, base, nb, xs, cs, h, _ => by
    have h' : Ro (.rs e k) w φ xs cs := h
    have h2 := h'.keep hk
    obtain ⟨A, c, rfl, _⟩ := h
    exact ⟨h2, trivial⟩
  | .sl e k, base, nb, xs, cs, h, hm => by
    obtain ⟨v, rfl, h⟩ := h
    exact ⟨hm 0 v rfl rfl, trivial⟩
  | .pair a b, base, nb, x, cs, h, hm => by
    obtain ⟨c0, c1, rfl, h0, h1⟩ := h
    refine All2.app (leaves_init hk h0 fun j v hv hl => ?_) (leaves_init hk h1 fun j v hv hl => ?_)
    · have hj : j < a.sz := by rw [← h0.len]; exact (List.getElem?_eq_some_iff.1 hv).1
      refine hm j v ?_ (by rw [leafK_left hj]; exact hl)
      rw [List.getElem?_append_left (by rw [h0.len]; exact hj)]; exact hv
    · rw [Nat.add_assoc]
      refine hm (a.sz + j) v ?_ (by rw [leafK_right]; exact hl)
      rw [List.getElem?_append_right (by rw [h0.len]; omega), h0.len, Nat.add_sub_cancel_left]; exact hv

theorem gKept_ok {cfg : Cfg} {w : World} {φ : Col} {pls : Nat → Plc} {ps0 : List PK} {args : List Value} (hsz : ∀ p ∈ ps0, szOk p.k = true) {s : St} {n : Nat} {a : Act} {m : Mem} (hr : Rel n w (enGh (enMem w φ pls ps0 args)) s a m) {φ' : Col} (hk : Keeps m.w m.w m.φ φ') :
    ∀ {ps : List PK} {i : Nat} {x : Ts (ins ps)} {vs : List Value} {y : Ts (kk ps)} {hd : List Hd} {bo : List Nat} {bx : List Bx}, gKept cfg s i ps x = some (y, hd, bo, bx) → ArgsC w φ pls i ps x vs →
      (∀ idx p, ps[idx]? = some p → ps0[i + idx]? = some p) → (∀ idx v, vs[idx]? = some v → args[i + idx]? = some v) → i + ps.length ≤ 16 → CalOk m φ' hd bo → (∀ z ∈ bx, Moves m.w m.w m.φ φ' [2 * z.b + 1] [2 * pB z.i + 1]) → KeptC m.w φ' pls i ps y vs
  | [], i, x, vs, y, hd, bo, bx, h, ha, _, _, _, _, _ => ha
  | .val g k false :: ps, i, x, vs, y, hd, bo, bx, h, ha, hps, hvs, hi, hc, hbx => by
    obtain ⟨cs, r, rfl, hl, hg, hrest⟩ := ha
    simp only [gKept] at h
    exact ⟨_, r, rfl, gKept_ok hsz hr hk h hrest (fun idx p hp => by
      have := hps (idx + 1) p (by simpa using hp)
      rwa [show i + (idx + 1) = i + 1 + idx by omega] at this) (fun idx v hv => by
      have := hvs (idx + 1) v (by simpa using hv)
      rwa [show i + (idx + 1) = i + 1 + idx by omega] at this) (by simp at hi; omega) hc hbx⟩
  | .val g k true :: ps, i, x, vs, y, hd, bo, bx, h, ha, hps, hvs, hi, hc, hbx => by
    obtain ⟨cs, r, rfl, hl, hg, hrest⟩ := ha
    simp only [gKept] at h
    split at h
    · rename_i y1 hd1 bo1 rd1 e1
      split at h
      · rename_i z hd2 bo2 bx2 e2
        injection h with h; injection h with h1 h; injection h with h2 h; injection h with h3 h4; subst h1; subst h2; subst h3; subst h4
        have hp0 := hps 0 _ rfl
        have hv0 := hvs 0 _ rfl
        rw [Nat.add_zero] at hp0 hv0
        have hsz0 : k.sz ≤ 100 := Nat.le_of_ble_eq_true (hsz _ (List.mem_of_getElem? hp0))
        have hac : acell w pls ps0 args i = cs := by
          simp only [acell, hp0, hv0]; exact toV_cells hl hg
        have hlv := leaves_init (s := s) (m := m) hr.kp (nb := pR i) hl fun j v hv hlk => by
          have hlt := (List.getElem?_eq_some_iff.1 hv).1
          have hlen := hl.len
          refine ⟨hl.one v (List.mem_of_getElem? hv), fun rr hrr => ?_⟩
          rw [hr.gr (pR i + j) rr (by simp only [pR]; omega) (by simp only [pR]; simp at hi; omega) hrr]
          show v = (acell w pls ps0 args ((pR i + j - 1000) / 100)).getD ((pR i + j - 1000) % 100) undef
          have h1 : (pR i + j - 1000) / 100 = i := by simp only [pR]; omega
          have h2 : (pR i + j - 1000) % 100 = j := by simp only [pR]; omega
          rw [h1, h2, hac, List.getD_eq_getElem?_getD, hv]; rfl
        obtain ⟨v0, v1, ev, hl', hrest'⟩ := gv_ok hr hk e1 (gv_reads e1) hc.left hlv
        have : v1 = [] := by cases v1 with
          | nil => rfl
          | cons _ _ => exact hrest'.elim
        subst this
        rw [List.append_nil] at ev
        subst ev
        exact ⟨cs, r, rfl, hl', hg, gKept_ok hsz hr hk e2 hrest (fun idx p hp => by
          have := hps (idx + 1) p (by simpa using hp)
          rwa [show i + (idx + 1) = i + 1 + idx by omega] at this) (fun idx v hv => by
          have := hvs (idx + 1) v (by simpa using hv)
          rwa [show i + (idx + 1) = i + 1 + idx by omega] at this) (by simp at hi; omega) hc.right hbx⟩
      · cases h
    · cases h
  | .ptr k :: ps, i, x, vs, y, hd, bo, bx, h, ha, hps, hvs, hi, hc, hbx => by
    obtain ⟨cs0, r, rfl, _, _, hrest⟩ := ha
    simp only [gKept] at h
    split at h
    · rename_i c hcb
      split at h
      · rename_i y1 hd1 bo1 rd1 e1
        split at h
        · rename_i z hd2 bo2 bx2 e2
          injection h with h; injection h with h1 h; injection h with h2 h; injection h with h3 h4; subst h1; subst h2; subst h3; subst h4
          have hgb := St.getB_some.1 hcb
          obtain ⟨cs, hcs, hone, hcol, hg⟩ := hr.bx _ c hgb
          have hβ : m.β (pB i) = pls i := by
            rw [hr.gb (pB i) c (by simp only [pB]; omega) (by simp only [pB]; simp at hi; omega) hgb]
            show pls (pB i - 1000) = pls i
            rw [show pB i - 1000 = i by simp only [pB]; omega]
          rw [hβ] at hcol hg
          obtain ⟨v0, v1, ev, hl', hrest'⟩ := gv_ok hr hk e1 (gv_reads e1) hc.left hcs
          have : v1 = [] := by cases v1 with
            | nil => rfl
            | cons _ _ => exact hrest'.elim
          subst this
          rw [List.append_nil] at ev
          subst ev
          have hlt : (pls i).g < m.w.heap.size := (Array.getElem?_eq_some_iff.1 hg).1
          refine ⟨cs, _, r, rfl, ⟨hg, (hbx _ List.mem_cons_self (pls i).g [] hcol hlt).2⟩, hl', gKept_ok hsz hr hk e2 hrest (fun idx p hp => by
            have := hps (idx + 1) p (by simpa using hp)
            rwa [show i + (idx + 1) = i + 1 + idx by omega] at this) (fun idx v hv => by
            have := hvs (idx + 1) v (by simpa using hv)
            rwa [show i + (idx + 1) = i + 1 + idx by omega] at this) (by simp at hi; omega) hc.right (fun z hz => hbx z (List.mem_cons_of_mem _ hz))⟩
        · cases h
      · cases h
    · cases h

theorem gRes_ok {cfg : Cfg} {s : St} {n : Nat} {w0 : World} {φ0 : Gh} {a : Act} {m : Mem} (hr : Rel n w0 φ0 s a m) {φ' : Col} (hk : Keeps m.w m.w m.φ φ') {pls : Nat → Plc} {args : List Value} :
    ∀ {res : List RK} {ps : List PK} {j : Nat} {vs : List AV} {y : Ts (kk ps)} {z : Ts (outs res ps)} {hd : List Hd} {bo : List Nat}, gRes cfg s j res ps vs y = some (z, hd, bo) → CalOk m φ' hd bo → KeptC m.w φ' pls 0 ps y args →
      ∀ {vals : List Value}, All2 (AVC s m) vs vals → OutC m.w φ' pls ps args j res z vals
  | [], ps, j, vs, y, z, hd, bo, h, _, hkept, vals, hv => by
    cases vs with
    | cons _ _ => simp [gRes] at h
    | nil =>
      simp only [gRes] at h; injection h with h; injection h with h1 _; subst h1
      cases vals with
      | nil => exact ⟨rfl, hkept⟩
      | cons _ _ => exact hv.elim
  | .new k :: res, ps, j, vs, y, z, hd, bo, h, _, _, _, _ => by simp [gRes] at h
  | .val g k :: res, ps, j, vs, y, z, hd, bo, h, hc, hkept, vals, hv => by
    cases vs with
    | nil => simp [gRes] at h
    | cons v vs =>
      cases vals with
      | nil => exact hv.elim
      | cons u vals =>
        simp only [gRes] at h
        split at h
        · rename_i ls els
          split at h
          · rename_i x1 hd1 bo1 rd1 e1
            split at h
            · rename_i z2 hd2 bo2 e2
              injection h with h; injection h with h1 h; injection h with h2 h3; subst h1; subst h2; subst h3
              obtain ⟨cs, rfl, hcs, hg⟩ := avG_ok els hv.1
              obtain ⟨v0, v1, ev, hl', hrest'⟩ := gv_ok hr hk e1 (gv_reads e1) hc.left hcs
              have : v1 = [] := by cases v1 with
                | nil => rfl
                | cons _ _ => exact hrest'.elim
              subst this
              rw [List.append_nil] at ev
              subst ev
              exact ⟨cs, vals, rfl, hl', hg, gRes_ok hr hk e2 hc.right hkept hv.2⟩
            · cases h
          · cases h
        · cases h

/-- A function's contract, of its own code. -/
noncomputable def mkFn (cfg : Cfg) (Γ : List (Nat × Fn)) (An : Nat → Option Jn) (n : Nat) (rvs : List ResultVar) (c : Code) (ps : List PK) (res : List RK) : Fn :=
  ⟨ps, res, fun x => ev (evOp cfg Γ) n An c 1 (enSt 0 ps x) (Ts (outs res ps)) fun e s => match e with
    | .exit _ => none
    | _ => exitV cfg rvs res ps x s⟩

theorem sound_mk {P : Program} (hm : P.follows .mixedOrders = true) {cfg : Cfg} (hc : CfgOk P cfg) {Γ : List (Nat × Fn)} (hΓ : TabOk P Γ) {f : Nat} {fn : Func} {c : Code} (hf : P.funcs[f]? = some fn) (hb : fn.body = some c) {An : Nat → Option Jn}
    {ps : List PK} {res : List RK} (hn : ps.length ≤ fn.ntmps) (hn2 : fn.ntmps ≤ 1000) (hp : ps.length ≤ 16) (hsz : ∀ p ∈ ps, szOk p.k = true) : Sound P f (mkFn cfg Γ An fn.ntmps fn.results.toList c ps res) := by
  intro x y hy w φ pls args hargs
  have hent := enter_rel hargs hsz hn hn2
  refine calls_of_wp hf hb ?_
  refine ev_ok hm (evOp_ok hc hΓ) c 1 (enSt 0 ps x) _ _ y hy w _ _ (enMem w φ pls ps args) _ hent fun e s a m hk hs hr => ?_
  have key : exitV cfg fn.results.toList res ps x s = some y → a.defers = [] ∧ ∃ v, (results fn a.tmps).run P m.w = .ok v m.w ∧ ∃ φ' vals, Ending.returned v = .returned (pack vals) ∧ Keeps w m.w φ φ' ∧ Fore w m.w φ φ' ∧ Later w m.w ∧ OutC m.w φ' pls ps args 0 res y vals := by
    intro h
    unfold exitV at h
    split at h
    · rename_i vs evs
      split at h
      · rename_i y1 hd2 bo2 bx e2
        split at h
        · rename_i z hd1 bo1 e1
          split at h
          · rename_i hok
            injection h with h; subst h
            simp only [exitOk, Bool.and_eq_true] at hok
            obtain ⟨vals, hv1, hv2⟩ := results_ok hc hr evs
            have hcal : CalOk m (calCol (tgHd (hd1 ++ hd2) bx) ((bo1 ++ bo2).map (2 * ·)) m.φ) (hd1 ++ hd2) (bo1 ++ bo2) := by
              refine ⟨fun g hh p => cal_moves m.w (rootL_nodup hok.1 (List.mem_append_left _ (List.mem_map.2 ⟨g, hh, rfl⟩))) p, fun id hid => cal_frees m.w (tgHd_row fun hm => ?_) (List.mem_map.2 ⟨id, hid, rfl⟩) []⟩
              obtain ⟨g, hh, e⟩ := List.mem_map.1 hm
              injection e with e
              have := List.all_eq_true.1 (List.all_eq_true.1 hok.2 id hid) g hh
              rw [e, Nat.beq_refl] at this; cases this
            have hkp := cal_keeps m.w (tgHd (hd1 ++ hd2) bx) ((bo1 ++ bo2).map (2 * ·)) m.φ
            have hkept := gKept_ok hsz hr hkp e2 hargs (fun idx p hp => by rw [Nat.zero_add]; exact hp) (fun idx v hv => by rw [Nat.zero_add]; exact hv) (by omega) hcal.right
              (fun z hz => cal_moves m.w (rootL_nodup hok.1 (List.mem_append_right _ (List.mem_map.2 ⟨z, hz, rfl⟩))) [])
            have hout := gRes_ok hr hkp e1 hcal.left hkept hv2
            refine ⟨hr.df, _, hv1, _, vals, rfl, hr.kp.trans hkp hr.hs, hr.fo.trans (fun b hb _ => ⟨rfl, by simp only [calCol, hb]⟩) hr.hs, ⟨hr.hs, hr.os, hr.tp, hr.ou⟩, hout⟩
          · cases h
        · cases h
      · cases h
    · cases h
  cases e with
  | normal => exact key hk
  | ret => exact key hk
  | exit id => cases hk

end Go.Proofs.Ytlgbhpphfimdbaa.Ev
