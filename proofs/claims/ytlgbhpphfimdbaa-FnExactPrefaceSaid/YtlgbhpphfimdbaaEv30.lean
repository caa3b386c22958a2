/- A call, evaluated. -/
import Derived.Test.YtlgbhpphfimdbaaEv29
namespace Go.Proofs.Ytlgbhpphfimdbaa.Ev
set_option linter.unusedVariables false
set_option linter.unusedSimpArgs false

def opnds (s : St) : List Operand → Option (List AV × Rds)
  | [] => some ([], [])
  | x :: xs => match opnd s x, opnds s xs with
    | some (v, r1), some (vs, r2) => some (v :: vs, r1 ++ r2)
    | _, _ => none

theorem opnds_reads {s : St} : ∀ {xs : List Operand} {vs : List AV} {rd : Rds}, opnds s xs = some (vs, rd) → Reads s rd
  | [], vs, rd, h => by simp only [opnds] at h; injection h with h; injection h with _ h; subst h; exact Reads.nil _
  | x :: xs, vs, rd, h => by
    simp only [opnds] at h
    split at h
    · rename_i e1 e2
      injection h with h; injection h with _ h; subst h
      exact Reads.app.2 ⟨opnd_reads e1, opnds_reads e2⟩
    · cases h

theorem opnds_ok {s s' : St} {n : Nat} {w0 : World} {φ0 : Gh} {a : Act} {m : Mem} (hr : Rel n w0 φ0 s' a m) : ∀ {xs : List Operand} {vs : List AV} {rd : Rds}, opnds s xs = some (vs, rd) → Reads s' rd → All2 (AVC s' m) vs (xs.map a.eval)
  | [], vs, rd, h, _ => by simp only [opnds] at h; injection h with h; injection h with h _; subst h; trivial
  | x :: xs, vs, rd, h, hrd => by
    simp only [opnds] at h
    split at h
    · rename_i e1 e2
      injection h with h; injection h with h1 h2; subst h1; subst h2
      obtain ⟨g1, g2⟩ := Reads.app.1 hrd
      exact ⟨opnd_ok e1 hr g1, opnds_ok hr e2 g2⟩
    · cases h

def lookF : List (Nat × Fn) → Nat → Option Fn
  | [], _ => none
  | (g, F) :: Γ, f => match Nat.beq g f with
    | true => some F
    | false => lookF Γ f

theorem lookF_mem : ∀ {Γ : List (Nat × Fn)} {f : Nat} {F : Fn}, lookF Γ f = some F → (f, F) ∈ Γ
  | (g, G) :: Γ, f, F, h => by
    simp only [lookF] at h
    split at h
    · rename_i hb; injection h with h; subst h; rw [Nat.eq_of_beq_eq_true hb]; exact List.mem_cons_self
    · exact List.mem_cons_of_mem _ (lookF_mem h)

/-- A function that runs when it is called. -/
def Enters (P : Program) (f : Nat) : Prop := ∀ args w, (callFunc f args).run P w = .ok (.enter f args) w

def TabOk (P : Program) (Γ : List (Nat × Fn)) : Prop := ∀ p ∈ Γ, Enters P p.1 ∧ Sound P p.1 p.2

def avPack : List (Bool × List Lf) → AV
  | [] => .und
  | [(true, ls)] => .agg ls
  | [(false, [l])] => .one l
  | ps => .tup ps

theorem avPack_ok {s : St} {m : Mem} {ps : List (Bool × List Lf)} {vs : List Value} (h : All2 (PartC s m) ps vs) : AVC s m (avPack ps) (pack vs) := by
  cases ps with
  | nil => cases vs with
    | nil => rfl
    | cons _ _ => exact h.elim
  | cons p ps =>
    cases vs with
    | nil => exact h.elim
    | cons v vs =>
      cases ps with
      | cons p2 ps =>
        cases vs with
        | nil => exact h.2.elim
        | cons v2 vs =>
          obtain ⟨g, ls⟩ := p
          have e1 : avPack ((g, ls) :: p2 :: ps) = .tup ((g, ls) :: p2 :: ps) := by unfold avPack; split <;> simp_all
          rw [e1]
          exact ⟨v :: v2 :: vs, rfl, h⟩
      | nil =>
        have : vs = [] := by cases vs with
          | nil => rfl
          | cons _ _ => exact h.2.elim
        subst this
        obtain ⟨g, ls⟩ := p
        have h1 := h.1
        cases g with
        | true =>
          obtain ⟨cs, rfl, hc⟩ := h1
          exact ⟨cs, rfl, hc⟩
        | false =>
          obtain ⟨l, e, hc⟩ := h1
          simp only at e; subst e
          exact hc

def bkAll (L : Nat) (F : Fn) (hd : List Hd) (bx : List Bx) : List (Nat × Nat) := bkRes L 0 F.res ++ (bkPs L bx 0 F.ps ++ bkHd hd)

structure CallOk (L : Nat) (F : Fn) (hd : List Hd) (bo : List Nat) (bx : List Bx) : Prop where
  tg : nodupB ((tgHd hd bx).map (·.1)) = true
  bk : nodupB ((bkAll L F hd bx).map (·.1)) = true
  lent : ∀ b ∈ bo, ∀ h ∈ hd, h.id ≠ b
  ix : nodupB (bx.map (·.i)) = true
  rs : bo = [] ∨ ((∀ r ∈ F.res, r.k.noRs = true) ∧ kkAll K.noRs F.ps = true)
  nr : F.res.length ≤ 16
  np : F.ps.length ≤ 16
  sr : ∀ r ∈ F.res, szOk r.k = true
  sp : ∀ p ∈ F.ps, szOk p.k = true

def isNil {α : Type} : List α → Bool
  | [] => true
  | _ => false

def callOk (L : Nat) (F : Fn) (hd : List Hd) (bo : List Nat) (bx : List Bx) : Bool :=
  nodupB ((tgHd hd bx).map (·.1)) && (nodupB ((bkAll L F hd bx).map (·.1)) && (bo.all (fun b => hd.all fun h => !(Nat.beq h.id b)) && (nodupB (bx.map (·.i)) &&
    ((isNil bo || (F.res.all (fun r => r.k.noRs) && kkAll K.noRs F.ps)) && (Nat.ble F.res.length 16 && (Nat.ble F.ps.length 16 && (F.res.all (fun r => szOk r.k) && F.ps.all fun p => szOk p.k)))))))

theorem callOk_ok {L : Nat} {F : Fn} {hd : List Hd} {bo : List Nat} {bx : List Bx} (h : callOk L F hd bo bx = true) : CallOk L F hd bo bx := by
  simp only [callOk, Bool.and_eq_true, Bool.or_eq_true] at h
  obtain ⟨h1, h2, h3, h4, h5, h6, h7, h8, h9⟩ := h
  refine ⟨h1, h2, fun b hb g hg e => ?_, h4, ?_, Nat.le_of_ble_eq_true h6, Nat.le_of_ble_eq_true h7, fun r hr => List.all_eq_true.1 h8 r hr, fun p hp => List.all_eq_true.1 h9 p hp⟩
  · have := List.all_eq_true.1 (List.all_eq_true.1 h3 b hb) g hg
    rw [e, Nat.beq_refl] at this; cases this
  · rcases h5 with h5 | ⟨h5, h10⟩
    · cases bo with
      | nil => exact .inl rfl
      | cons _ _ => cases h5
    · exact .inr ⟨fun r hr => List.all_eq_true.1 h5 r hr, h10⟩

def newsOf (L : Nat) (F : Fn) (y : Ts (outs F.res F.ps)) (N : List Loc) : List Loc := (outWr L 0 F.res y).map (·.1) ++ N

def dstW (d : Option Nat) (v : AV) : St := match d with
  | none => []
  | some d => [(.t d, some (.t v))]

def high : Loc → Bool
  | .r id => Nat.ble 4096 id
  | .b id => Nat.ble 4096 id
  | _ => true

def seed (d : Option Nat) : Nat := match d with
  | some d => d + 1
  | none => 1

def xCall {R : Type} (cfg : Cfg) (Γ : List (Nat × Fn)) (s : St) (d : Option Nat) (f : Nat) (args : List Operand) (κ : Ke R) : Option R :=
  match lookF Γ f, opnds s args with
  | some F, some (vs, rx) => match gArgs cfg s 0 F.ps vs with
    | some (x, hd, bo, bx, rds) => match callOk (seed d) F hd bo bx with
      | true => bindO (F.fn x) fun y => match keptWr s (seed d) hd bx 0 F.ps (outRest F.res y) with
        | some (W, N) => match hd.all (fun h => !(locB (newsOf (seed d) F y N) (.r h.id))) && bx.all (fun z => !(locB (newsOf (seed d) F y N) (.b z.b))) && (newsOf (seed d) F y N).all high with
          | true => κ ⟨rx ++ rds, dstW d (avPack (outParts (seed d) 0 F.res y)) ++ ((outWr (seed d) 0 F.res y ++ W) ++ tombs (hd.map fun h => Loc.r h.id)), newsOf (seed d) F y N⟩
          | false => none
        | none => none
      | false => none
    | none => none
  | _, _ => none

theorem findX_nodup : ∀ {bx : List Bx} {z : Bx}, nodupB (bx.map (·.i)) = true → z ∈ bx → findX bx z.i = some z
  | x :: bx, z, hn, hm => by
    obtain ⟨h1, h2⟩ := nodupB_cons hn
    simp only [findX]
    rcases List.mem_cons.1 hm with e | hm
    · subst e; rw [Nat.beq_refl]
    · have hne : Nat.beq x.i z.i = false := by
        cases e : Nat.beq x.i z.i with
        | false => rfl
        | true =>
          have e := Nat.eq_of_beq_eq_true e
          exact absurd (List.mem_map.2 ⟨z, hm, e.symm⟩) h1
      rw [hne]
      exact findX_nodup h2 hm

theorem locB_mem {W : List Loc} {l : Loc} (h : l ∈ W) : locB W l = true := List.any_eq_true.2 ⟨l, h, Loc.eqb_iff.2 rfl⟩

theorem outWr_shape {L : Nat} : ∀ {res : List RK} {ps : List PK} {j : Nat} {y : Ts (outs res ps)}, ∀ p ∈ outWr L j res y, (∃ id row, p = (Loc.r id, some (LV.r row))) ∨ (∃ b c, p = (Loc.b b, some (LV.b c)))
  | [], ps, j, y, p, h => nomatch h
  | .val g k :: res, ps, j, y, p, h => by
    simp only [outWr] at h
    rcases List.mem_append.1 h with h | h
    · obtain ⟨q, _, rfl⟩ := List.mem_map.1 h; exact .inl ⟨_, _, rfl⟩
    · exact outWr_shape p h
  | .new k :: res, ps, j, y, p, h => by
    simp only [outWr] at h
    rcases List.mem_cons.1 h with h | h
    · exact .inr ⟨_, _, h⟩
    · rcases List.mem_append.1 h with h | h
      · obtain ⟨q, _, rfl⟩ := List.mem_map.1 h; exact .inl ⟨_, _, rfl⟩
      · exact outWr_shape p h

theorem xCall_ok {R : Type} {P : Program} {cfg : Cfg} {Γ : List (Nat × Fn)} (hΓ : TabOk P Γ) {s : St} {d : Option Nat} {f : Nat} {args : List Operand} {κ : Ke R} {r : R} (h : xCall cfg Γ s d f args κ = some r) (at' : Array TypeId) :
    OutG P s (.call { callee := .value (.func f), args := args.toArray, argTypes := at' }) d κ r := by
  unfold xCall at h
  split at h
  · rename_i F vs rx hF hvs
    split at h
    · rename_i x hd bo bx rds hg
      split at h
      · rename_i hco
        obtain ⟨y, hy, h⟩ := bindO_some h
        split at h
        · rename_i W N hW
          split at h
          · rename_i hnn
            have hco := callOk_ok hco
            obtain ⟨hent, hsound⟩ := hΓ _ (lookF_mem hF)
            refine ⟨_, h, Reads.app.2 ⟨opnds_reads hvs, gArgs_reads hg⟩, fun n o ho hdst hd0 w0 φ0 s' a m hr hrd hnew next Q hn => ?_⟩
            clear h
            obtain ⟨hrd1, hrd2⟩ := Reads.app.1 hrd
            have hvals := opnds_ok hr hvs hrd1
            let pls : Nat → Plc := fun i => match findX bx i with
              | some z => plOf m z
              | none => ⟨0, 0, [], []⟩
            have hpl : ∀ z ∈ bx, pls z.i = plOf m z := fun z hz => by
              show (match findX bx z.i with
                | some z => plOf m z
                | none => (⟨0, 0, [], []⟩ : Plc)) = _
              rw [findX_nodup hco.ix hz]
            have hcal : CalOk m (calCol (tgHd hd bx) (bo.map (2 * ·)) m.φ) hd bo := by
              refine ⟨fun g hh p => cal_moves m.w (rootL_nodup hco.tg (List.mem_append_left _ (List.mem_map.2 ⟨g, hh, rfl⟩))) p, fun id hid => cal_frees m.w (tgHd_row fun hm => ?_) (List.mem_map.2 ⟨id, hid, rfl⟩) []⟩
              obtain ⟨g, hh, e⟩ := List.mem_map.1 hm
              injection e with e
              exact hco.lent id hid g hh e
            have hargs := gArgs_ok hr (cal_keeps m.w _ _ _) hg hrd2 hcal (fun z hz => cal_moves m.w (rootL_nodup hco.tg (List.mem_append_right _ (List.mem_map.2 ⟨z, hz, rfl⟩))) []) hpl hvals
            have hcalls := hsound x y hy m.w _ pls _ hargs
            have hrun : (execOp a.eval o).run P m.w = .ok (.enter f (args.map a.eval).toArray) m.w := by
              have he := hent (args.map a.eval).toArray m.w
              have : (execOp a.eval o) = callFunc f ((args.map a.eval).toArray) := by
                simp [execOp, ho, resolve, invoke, Act.eval, Deferred.ofValue]
              rw [this]; exact he
            simp only [Oper.wp, hrun, Oper.upon, hdst]
            refine hcalls.mono fun e w' hpost => ?_
            obtain ⟨φ', rv, rfl, hk, hf, hl, hout⟩ := hpost
            show next (a.put d (pack rv)) w'
            simp only [Bool.and_eq_true] at hnn
            have hroots : Roots w' φ' (combC m.w.heap.size m.φ (calCol (tgHd hd bx) (bo.map (2 * ·)) m.φ) φ' (bkAll (seed d) F hd bx)) (bkAll (seed d) F hd bx) :=
              fun p hp q => comb_back hk hf (rootL_nodup hco.bk hp) q
            have hkeepB : bo = [] → Keeps w' w' φ' (combC m.w.heap.size m.φ (calCol (tgHd hd bx) (bo.map (2 * ·)) m.φ) φ' (bkAll (seed d) F hd bx)) := fun e => by
              subst e; exact comb_none hf
            generalize hφ1 : combC m.w.heap.size m.φ (calCol (tgHd hd bx) (bo.map (2 * ·)) m.φ) φ' (bkAll (seed d) F hd bx) = φ1 at *
            let m1 : Mem := ⟨w', φ1, fun id => if Loc.r id ∈ newsOf (seed d) F y N then
                (if id - 4096 * (seed d) < 2048 then (match rv[(id - 4096 * (seed d)) / 128]? with
                  | some v => vcells w' v
                  | none => []).getD ((id - 4096 * (seed d)) % 128) undef
                else ((cellsAt w' (pls ((id - 4096 * (seed d) - 2048) / 128)).g).drop (pls ((id - 4096 * (seed d) - 2048) / 128)).pre.length).getD ((id - 4096 * (seed d) - 2048) % 128) undef) else m.ρ id,
              fun b => if Loc.b b ∈ newsOf (seed d) F y N then (match rv[(b - 4096 * (seed d)) / 128]? with
                | some (.pointer (some ⟨b0, _, _⟩)) => ⟨b0, tyAt w' b0, [], []⟩
                | _ => m.β b) else m.β b⟩
            have hN : NewOk (seed d) w' φ' φ1 pls rv (newsOf (seed d) F y N) m1 := by
              refine ⟨rfl, rfl, fun j c v hj hc hv hm => ?_, fun i c hi hc hm => ?_, fun j b hj hv hm => ?_⟩
              · show (if Loc.r (nr (seed d) j + c) ∈ newsOf (seed d) F y N then _ else _) = _
                have e1 : nr (seed d) j + c - 4096 * (seed d) = 128 * j + c := by simp only [nr]; omega
                have e2 : (128 * j + c) / 128 = j := by omega
                have e3 : (128 * j + c) % 128 = c := by omega
                rw [if_pos hm, e1, e2, e3, if_pos (by omega), hv]
              · show (if Loc.r (np (seed d) i + c) ∈ newsOf (seed d) F y N then _ else _) = _
                have e1 : np (seed d) i + c - 4096 * (seed d) = 2048 + (128 * i + c) := by simp only [np]; omega
                have e2 : (2048 + (128 * i + c) - 2048) / 128 = i := by omega
                have e3 : (2048 + (128 * i + c) - 2048) % 128 = c := by omega
                rw [if_pos hm, e1, e2, e3, if_neg (by omega)]
              · show (if Loc.b (nr (seed d) j) ∈ newsOf (seed d) F y N then _ else _) = _
                have e1 : nr (seed d) j - 4096 * (seed d) = 128 * j := by simp only [nr]; omega
                have e2 : (128 * j) / 128 = j := by omega
                rw [if_pos hm, e1, e2, hv]
            have hρ : ∀ id, Loc.r id ∉ newsOf (seed d) F y N → m1.ρ id = m.ρ id := fun id hn => if_neg hn
            have hβ : ∀ b, Loc.b b ∉ newsOf (seed d) F y N → m1.β b = m.β b := fun b hn => if_neg hn
            obtain ⟨hF1, hF2⟩ := gArgs_facts hr hg hrd2 hvals
            have hE : KeepEnv (seed d) w' φ' φ1 pls rv (newsOf (seed d) F y N) m1 s s' m F.ps (args.map a.eval) hd bx rds :=
              ⟨hN, hF1, hF2, hco.sp, hroots.right.right, fun g hh hm => (by
                have := List.all_eq_true.1 hnn.1.1 g hh
                rw [locB_mem hm] at this; cases this), fun z hz hm => (by
                have := List.all_eq_true.1 hnn.1.2 z hz
                rw [locB_mem hm] at this; cases this), hρ, hβ, hpl, hrd2⟩
            have hO := outEnt (s1 := (outWr (seed d) 0 F.res y ++ W) ++ (tombs (hd.map fun h => Loc.r h.id) ++ s')) hN hout (fun i v hi => by rw [Nat.zero_add]; exact hi) (by rw [Nat.zero_add]; exact hco.nr) hco.sr
              (fun q hq => hco.rs.elim (fun e => .inr (hkeepB e)) (fun e => .inl (e.1 q hq))) hroots.left (fun p hp => List.mem_append_left _ (List.mem_map.2 ⟨p, hp, rfl⟩))
            obtain ⟨o1, o2, o3⟩ := hO
            obtain ⟨k1, k2, k3, k4, k5⟩ := keptEnt (s1 := (outWr (seed d) 0 F.res y ++ W) ++ (tombs (hd.map fun h => Loc.r h.id) ++ s')) hr hE o3 hW (fun idx p hp => by rw [Nat.zero_add]; exact hp) (fun idx v hv => by rw [Nat.zero_add]; exact hv)
              (by rw [Nat.zero_add]; exact hco.np) (fun _ => trivial) (hco.rs.elim (fun e => .inr (hkeepB e)) (fun e => .inl e.2)) hroots.right.left (fun l hl => List.mem_append_right _ hl)
            have hWall : ∀ l lv, (l, some lv) ∈ outWr (seed d) 0 F.res y ++ W → EntW s' m m1 (newsOf (seed d) F y N) l lv := by
              intro l lv hm
              rcases List.mem_append.1 hm with hm | hm
              · have hin : l ∈ newsOf (seed d) F y N := List.mem_append_left _ (List.mem_map.2 ⟨_, hm, rfl⟩)
                rcases outWr_shape _ hm with ⟨id, row, e⟩ | ⟨b, c, e⟩
                · injection e with e1 e2; injection e2 with e2; subst e1; subst e2; exact .inl hin
                · injection e with e1 e2; injection e2 with e2; subst e1; subst e2; exact .inl hin
              · exact k1 l lv hm
            have hsome : ∀ p ∈ outWr (seed d) 0 F.res y ++ W, p.2.isSome = true := by
              intro p hp
              rcases List.mem_append.1 hp with hp | hp
              · rcases outWr_shape _ hp with ⟨id, row, e⟩ | ⟨b, c, e⟩ <;> rw [e] <;> rfl
              · exact k3 p hp
            have hnewW : ∀ l ∈ newsOf (seed d) F y N, inW (outWr (seed d) 0 F.res y ++ W) l = true := by
              intro l hl
              simp only [inW, List.any_append, Bool.or_eq_true]
              rcases List.mem_append.1 hl with hl | hl
              · obtain ⟨p, hp, rfl⟩ := List.mem_map.1 hl
                exact .inl (List.any_eq_true.2 ⟨p, hp, Loc.eqb_iff.2 rfl⟩)
              · exact .inr (k4 l hl)
            have hbxW : ∀ z ∈ bx, inW (outWr (seed d) 0 F.res y ++ W) (.b z.b) = true := by
              intro z hz
              obtain ⟨idx, k, c, hfz⟩ := hF2 z hz
              obtain ⟨z', g1, g2⟩ := k5 idx k hfz.pos
              rw [← hfz.i, findX_nodup hco.ix hz] at g1
              injection g1 with g1; subst g1
              simp only [inW, List.any_append, Bool.or_eq_true] at g2 ⊢
              exact .inr g2
            have hX := callExt (W := outWr (seed d) 0 F.res y ++ W) (bk := bkAll (seed d) F hd bx) (m1 := m1) hr hk hf rfl hφ1.symm hnew hρ hβ hWall
            have hR := callRel (bk := bkAll (seed d) F hd bx) (m1 := m1) hr hk hf hl rfl hφ1.symm hnew hρ hβ hWall hsome (fun id hm => Nat.le_of_ble_eq_true (List.all_eq_true.1 hnn.2 _ hm)) (fun b hm => Nat.le_of_ble_eq_true (List.all_eq_true.1 hnn.2 _ hm)) hnewW hbxW (fun l lv hm => (List.mem_append.1 hm).elim (o1 l lv) (k2 hX l lv))
            refine hn _ m1 ?_
            cases d with
            | none =>
              have e : (dstW none (avPack (outParts (seed none) 0 F.res y)) ++ ((outWr (seed none) 0 F.res y ++ W) ++ tombs (hd.map fun h => Loc.r h.id))) ++ s' = (outWr (seed none) 0 F.res y ++ W) ++ (tombs (hd.map fun h => Loc.r h.id) ++ s') := by
                simp only [dstW, List.nil_append, List.append_assoc]
              rw [e]
              exact hR
            | some i =>
              have e : (dstW (some i) (avPack (outParts (seed (some i)) 0 F.res y)) ++ ((outWr (seed (some i)) 0 F.res y ++ W) ++ tombs (hd.map fun h => Loc.r h.id))) ++ s' = (.t i, some (.t (avPack (outParts (seed (some i)) 0 F.res y)))) :: ((outWr (seed (some i)) 0 F.res y ++ W) ++ (tombs (hd.map fun h => Loc.r h.id) ++ s')) := by
                simp only [dstW, List.cons_append, List.nil_append, List.append_assoc]
              rw [e]
              exact hR.put (hd0 i rfl) (avPack_ok o2)
          · cases h
        · cases h
      · cases h
    · cases h
  · cases h

end Go.Proofs.Ytlgbhpphfimdbaa.Ev
