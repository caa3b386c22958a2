/- Marks: what the laws write into results, and find there again. -/
import Derived.Test.YtmdbndbfhgdhfaaGreatC3
set_option linter.unusedVariables false
set_option linter.unusedSimpArgs false
namespace Go.Proofs.YtmdbndbfhgdhfaaGreat.Ev

theorem rd_set {k : K} {b : List k.T} {i : Nat} (h : i < b.length) (u : k.T) : rd k (b.set i u) (i : Int) = u := by
  rw [rd_nat (xs := b.set i u) (by simpa using h)]
  simp

/-- What is marked from m on is found again from m on, and takes no more than n marks. -/
def MH {T : Type} (mark : Int → Option (Int × T × Unit)) (held : T → Int → Option (Int × Unit)) (n : Nat) : Prop :=
  ∀ m : Int, 0 ≤ m → m + n < 4611686018427387904 → ∃ m' y, mark m = some (m', y, ()) ∧ m ≤ m' ∧ m' ≤ m + n ∧ held y m = some (m', ())

def cost {T : Type} (c : T → Nat) (a : List T) : Nat := (a.map c).sum
theorem cost_drop {T : Type} (c : T → Nat) {a : List T} {i : Nat} (h : i < a.length) : cost c (a.drop i) = c a[i] + cost c (a.drop (i + 1)) := by
  rw [List.drop_eq_getElem_cons h]
  simp only [cost, List.map_cons, List.sum_cons]

theorem mhS_gen {T : Type} (Lm : Int × Int × List T × Unit → Option ((Int × Int × List T × Unit) ⊕ (Int × List T × Unit))) (Lh : List T → Int × Int × Unit → Option ((Int × Int × Unit) ⊕ (Int × Unit))) (c : T → Nat) (a : List T) (hn : a.length ≤ 1048576)
    (hs : ∀ (i : Nat) (hi : i < a.length) (m : Int), 0 ≤ m → m + c a[i] < 4611686018427387904 → ∃ m' u, m ≤ m' ∧ m' ≤ m + c a[i] ∧ (∀ (b : List T) (hb : b.length = a.length), b[i]'(by omega) = a[i] → Lm (m, (i : Int), b, ()) = some (.inl (m', (i : Int) + 1, b.set i u, ()))) ∧
      ∀ (b : List T) (hb : b.length = a.length), b[i]'(by omega) = u → Lh b (m, (i : Int), ()) = some (.inl (m', (i : Int) + 1, ())))
    (he : ∀ m (b : List T), b.length = a.length → Lm (m, (a.length : Int), b, ()) = some (.inr (m, b, ()))) (hf : ∀ m (b : List T), b.length = a.length → Lh b (m, (a.length : Int), ()) = some (.inr (m, ()))) :
    MH (fun m => loopO Lm (m, 0, a, ())) (fun y m => loopO (Lh y) (m, 0, ())) (cost c a) := by
  have key : ∀ k i, i + k = a.length → ∀ m : Int, 0 ≤ m → m + cost c (a.drop i) < 4611686018427387904 → ∃ m' us, us.length = k ∧ m ≤ m' ∧ m' ≤ m + cost c (a.drop i) ∧
      (∀ pre : List T, pre.length = i → loopO Lm (m, (i : Int), pre ++ a.drop i, ()) = some (m', pre ++ us, ())) ∧ ∀ pre : List T, pre.length = i → loopO (Lh (pre ++ us)) (m, (i : Int), ()) = some (m', ()) := by
    intro k
    induction k with
    | zero =>
      intro i hi m h0 h1
      obtain rfl : i = a.length := by omega
      refine ⟨m, [], rfl, Int.le_refl _, by omega, fun pre hp => ?_, fun pre hp => ?_⟩
      · rw [loopO_eq, he _ _ (by simp [hp])]
        simp
      · rw [loopO_eq, hf _ _ (by simp [hp])]
    | succ k ih =>
      intro i hi m h0 h1
      have hlt : i < a.length := by omega
      rw [cost_drop c hlt] at h1 ⊢
      obtain ⟨m1, u, g1, g2, g3, g4⟩ := hs i hlt m h0 (by omega)
      obtain ⟨m', us, h2, h3, h4, h5, h6⟩ := ih (i + 1) (by omega) m1 (by omega) (by omega)
      have e1 : (i : Int) + 1 = ((i + 1 : Nat) : Int) := by omega
      rw [e1] at g3 g4
      refine ⟨m', u :: us, by simp [h2], by omega, by omega, fun pre hp => ?_, fun pre hp => ?_⟩
      · have hl : (pre ++ a.drop i).length = a.length := by simp [hp]; omega
        have hg : (pre ++ a.drop i)[i]'(by omega) = a[i] := by
          rw [List.getElem_append_right (by omega)]
          simp [hp]
        rw [loopO_eq, g3 _ hl hg]
        have hset : (pre ++ a.drop i).set i u = (pre ++ [u]) ++ a.drop (i + 1) := by
          rw [List.set_append_right _ _ (by omega), hp, Nat.sub_self, List.drop_eq_getElem_cons hlt, List.set_cons_zero]
          simp
        rw [hset]
        have := h5 (pre ++ [u]) (by simp [hp])
        simp only [List.append_assoc, List.singleton_append] at this
        simpa using this
      · have hl : (pre ++ u :: us).length = a.length := by simp [hp, h2]; omega
        have hg : (pre ++ u :: us)[i]'(by omega) = u := by
          rw [List.getElem_append_right (by omega)]
          simp [hp]
        rw [loopO_eq, g4 _ hl hg]
        have := h6 (pre ++ [u]) (by simp [hp])
        simp only [List.append_assoc, List.singleton_append] at this
        exact this
  intro m h0 h1
  obtain ⟨m', us, h2, h3, h4, h5, h6⟩ := key a.length 0 (by omega) m h0 (by simpa using h1)
  exact ⟨m', us, by simpa using h5 [] rfl, h3, by simpa using h4, by simpa using h6 [] rfl⟩

theorem mh_byteS (a : List Int) : MH (P_w_markByteS a) P_w_heldByteS a.length := fun m h0 h1 => ⟨_, _, markByteS_eq a m h0 (by omega), by omega, Int.le_refl _, heldByteS_eq a.length m h0 (by omega)⟩
theorem mh_stringS (a : List ByteArray) : MH (P_w_markStringS a) P_w_heldStringS a.length := fun m h0 h1 => ⟨_, _, markStringS_eq a m h0 h1, by omega, Int.le_refl _, heldStringS_eq a.length m h0 h1⟩

theorem mh_heldS (a : List THeld) (h : a.length ≤ 1048576) : MH (P_w_markHeldS a) P_w_heldHeldS (cost (fun _ => 3) a) := by
  refine mhS_gen L_w_markHeldS_0 L_w_heldHeldS_0 (fun _ => 3) a h (fun i hi m h0 h1 => ?_) (fun m b hb => by simp [L_w_markHeldS_0, hb]) (fun m b hb => by simp [L_w_heldHeldS_0, hb])
  have w1 : IntKind.i64.wrap (m + 1) = m + 1 := w64 (by omega) (by omega)
  have w2 : IntKind.i64.wrap (m + 1 + 1) = m + 1 + 1 := w64 (by omega) (by omega)
  have w3 : IntKind.i64.wrap (m + 1 + 1 + 1) = m + 1 + 1 + 1 := w64 (by omega) (by omega)
  have wi : IntKind.i64.wrap ((i : Int) + 1) = (i : Int) + 1 := w64 (by omega) (by omega)
  have g1 : (0 : Int) ≤ (i : Int) := by omega
  refine ⟨m + 1 + 1 + 1, (m, m + 1, m + 1 + 1), by omega, by omega, fun b hb e => ?_, fun b hb e => ?_⟩
  · have hib : i < b.length := by omega
    have g2 : (i : Int) < (b.length : Int) := by omega
    simp only [L_w_markHeldS_0, bindO, List.length_set, dec_true g1, dec_true g2, cond_true, Int.toNat_natCast, w1, w2, w3, wi, List.set_set, rd_set (k := kHeld) hib]
  · have g2 : (i : Int) < (b.length : Int) := by omega
    have hr : rd kHeld b (i : Int) = (m, m + 1, m + 1 + 1) := by rw [rd_nat (k := kHeld) (xs := b) (by omega)]; exact e
    simp only [L_w_heldHeldS_0, bindO, dec_true g1, dec_true g2, cond_true, w1, w2, w3, wi, hr]
    simp

theorem mh_upS (a : List TUp) (h : a.length ≤ 1048576) : MH (P_w_markUpS a) P_w_heldUpS (cost (fun u => List.length u.2.2.1 + 3) a) := by
  refine mhS_gen (L_w_markUpS_0 P_w_markByteS P_w_markText) (L_w_heldUpS_0 P_w_heldByteS P_w_markText) (fun u => List.length u.2.2.1 + 3) a h (fun i hi m h0 h1 => ?_) (fun m b hb => by simp [L_w_markUpS_0, hb]) (fun m b hb => by simp [L_w_heldUpS_0, hb])
  obtain ⟨m1, d, e1, b1, b2, e2⟩ := mh_byteS a[i].2.2.1 (m + 1 + 1) (by omega) (by omega)
  have w1 : IntKind.i64.wrap (m + 1) = m + 1 := w64 (by omega) (by omega)
  have w2 : IntKind.i64.wrap (m + 1 + 1) = m + 1 + 1 := w64 (by omega) (by omega)
  have w3 : IntKind.i64.wrap (m1 + 1) = m1 + 1 := w64 (by omega) (by omega)
  have wi : IntKind.i64.wrap ((i : Int) + 1) = (i : Int) + 1 := w64 (by omega) (by omega)
  have g1 : (0 : Int) ≤ (i : Int) := by omega
  have ht := markText_eq m (by omega)
  refine ⟨m1 + 1, (mt m, m + 1, d, decide (m1.tmod 3 = 0)), by omega, by omega, fun b hb e => ?_, fun b hb e => ?_⟩
  · have hib : i < b.length := by omega
    have g2 : (i : Int) < (b.length : Int) := by omega
    have hr : rd kUp b (i : Int) = a[i] := by rw [rd_nat (k := kUp) (xs := b) (by omega)]; exact e
    simp only [L_w_markUpS_0, bindO, ht, List.length_set, dec_true g1, dec_true g2, cond_true, Int.toNat_natCast, w1, w2, w3, wi, List.set_set, rd_set (k := kUp) hib, hr, e1]
  · have g2 : (i : Int) < (b.length : Int) := by omega
    have hr : rd kUp b (i : Int) = (mt m, m + 1, d, decide (m1.tmod 3 = 0)) := by rw [rd_nat (k := kUp) (xs := b) (by omega)]; exact e
    simp only [L_w_heldUpS_0, bindO, ht, dec_true g1, dec_true g2, cond_true, w1, w2, w3, wi, hr, e2]
    rw [dec_false (show ¬ m1 < 0 by omega)]
    simp

def nDisk (d : TDisk) : Nat := d.1.length + d.2.length
def nStore (s : TStore) : Nat := nDisk s.1 + cost (fun u : TUp => List.length u.2.2.1 + 3) s.2.2.2
def nServer (s : TServer) : Nat := nStore s.1 + cost (fun _ : THeld => 3) s.2
theorem mh_disk (d : TDisk) : MH (P_w_markDisk d) P_w_heldDisk (nDisk d) := by
  intro m h0 h1
  unfold nDisk at *
  obtain ⟨m1, y1, e1, a1, b1, f1⟩ := mh_stringS d.1 m h0 (by omega)
  obtain ⟨m2, y2, e2, a2, b2, f2⟩ := mh_stringS d.2 m1 (by omega) (by omega)
  refine ⟨m2, (y1, y2), ?_, by omega, by omega, ?_⟩
  · simp only [P_w_markDisk, B_w_markDisk, e1, e2, bindO]
  · simp only [P_w_heldDisk, B_w_heldDisk, f1, f2, bindO]
    rw [dec_false (show ¬ m1 < 0 by omega), dec_false (show ¬ m2 < 0 by omega)]
    rfl
theorem mh_store (s : TStore) (h : s.2.2.2.length ≤ 1048576) (m : Int) (h0 : 0 ≤ m) (h1 : m + nStore s < 4611686018427387904) :
    ∃ m' y1 y2, P_w_markStore s m = some (m', (y1, s.2.1, s.2.2.1, y2), ()) ∧ m ≤ m' ∧ m' ≤ m + nStore s ∧ ∀ a b, P_w_heldStore (y1, a, b, y2) m = some (m', ()) := by
  unfold nStore at *
  obtain ⟨m1, y1, e1, a1, b1, f1⟩ := mh_disk s.1 m h0 (by omega)
  obtain ⟨m2, y2, e2, a2, b2, f2⟩ := mh_upS s.2.2.2 h m1 (by omega) (by omega)
  refine ⟨m2, y1, y2, ?_, by omega, by omega, fun a b => ?_⟩
  · simp only [P_w_markStore, B_w_markStore, e1, e2, bindO]
  · simp only [P_w_heldStore, B_w_heldStore, f1, f2, bindO]
    rw [dec_false (show ¬ m1 < 0 by omega), dec_false (show ¬ m2 < 0 by omega)]
    rfl
theorem mh_server (s : TServer) (h : s.1.2.2.2.length ≤ 1048576) (h' : s.2.length ≤ 1048576) (m : Int) (h0 : 0 ≤ m) (h1 : m + nServer s < 4611686018427387904) :
    ∃ m' y1 y2 y3, P_w_markServer s m = some (m', ((y1, s.1.2.1, s.1.2.2.1, y2), y3), ()) ∧ m ≤ m' ∧ m' ≤ m + nServer s ∧ ∀ a b, P_w_heldServer ((y1, a, b, y2), y3) m = some (m', ()) := by
  unfold nServer at *
  obtain ⟨m1, y1, y2, e1, a1, b1, f1⟩ := mh_store s.1 h m h0 (by omega)
  obtain ⟨m2, y3, e2, a2, b2, f2⟩ := mh_heldS s.2 h' m1 (by omega) (by omega)
  refine ⟨m2, y1, y2, y3, ?_, by omega, by omega, fun a b => ?_⟩
  · simp only [P_w_markServer, B_w_markServer, e1, e2, bindO]
  · simp only [P_w_heldServer, B_w_heldServer, f1, f2, bindO]
    rw [dec_false (show ¬ m1 < 0 by omega), dec_false (show ¬ m2 < 0 by omega)]
    rfl

theorem cost_le {T : Type} (c : T → Nat) (n : Nat) : ∀ (a : List T), (∀ x ∈ a, c x ≤ n) → cost c a ≤ a.length * n
  | [], _ => by simp [cost]
  | x :: a, h => by
    have h1 := cost_le c n a (fun y hy => h y (by simp [hy]))
    have h2 := h x (by simp)
    simp only [cost, List.map_cons, List.sum_cons, List.length_cons] at h1 ⊢
    rw [Nat.add_mul]
    omega
theorem markBoolS_ok (a : List Bool) (h : a.length ≤ 1048576) (m : Int) (h0 : 0 ≤ m) (h1 : m + a.length < 4611686018427387904) : ∃ y, P_w_markBoolS a m = some (m + (a.length : Int), y, ()) := by
  obtain ⟨z, e, hz⟩ := loopO_ind L_w_markBoolS_0 (fun l => ((a.length : Int) - l.2.1).toNat) (fun l => 0 ≤ l.2.1 ∧ l.2.1 ≤ (a.length : Int) ∧ List.length l.2.2.1 = a.length ∧ l.1 = m + l.2.1) (fun z => z.1 = m + (a.length : Int)) (fun l hl => by
    obtain ⟨g0, g1, g2, g3⟩ := hl
    obtain ⟨l1, l2, l3, u⟩ := l
    simp only at g0 g1 g2 g3
    simp only [L_w_markBoolS_0, g2]
    by_cases hi : l2 < (a.length : Int)
    · rw [dec_true hi, dec_true g0, w64 (n := l1 + 1) (by omega) (by omega), w64 (n := l2 + 1) (by omega) (by omega)]
      exact .inl ⟨_, rfl, ⟨by simp only; omega, by simp only; omega, by simp [g2], by simp only; omega⟩, by simp only; omega⟩
    · rw [dec_false hi]
      exact .inr ⟨_, rfl, by simp only; omega⟩) (m, 0, a, ()) ⟨by simp, by simp, rfl, by simp⟩
  refine ⟨z.2.1, ?_⟩
  have e' : P_w_markBoolS a m = some z := e
  rw [e']
  obtain ⟨z1, z2, z3⟩ := z
  simp only at hz
  rw [hz]
end Go.Proofs.YtmdbndbfhgdhfaaGreat.Ev
