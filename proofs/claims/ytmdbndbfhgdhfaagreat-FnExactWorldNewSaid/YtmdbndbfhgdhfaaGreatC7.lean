/- Marks of worlds. -/
import Derived.Test.YtmdbndbfhgdhfaaGreatC4
set_option linter.unusedVariables false
set_option linter.unusedSimpArgs false
namespace Go.Proofs.YtmdbndbfhgdhfaaGreat.Ev

theorem mh_boolS (a : List Bool) (h : a.length ≤ 1048576) : MH (P_w_markBoolS a) P_w_heldBoolS (cost (fun _ => 1) a) := by
  refine mhS_gen L_w_markBoolS_0 L_w_heldBoolS_0 (fun _ => 1) a h (fun i hi m h0 h1 => ?_) (fun m b hb => by simp [L_w_markBoolS_0, hb]) (fun m b hb => by simp [L_w_heldBoolS_0, hb])
  have w1 : IntKind.i64.wrap (m + 1) = m + 1 := w64 (by omega) (by omega)
  have wi : IntKind.i64.wrap ((i : Int) + 1) = (i : Int) + 1 := w64 (by omega) (by omega)
  have g1 : (0 : Int) ≤ (i : Int) := by omega
  refine ⟨m + 1, decide (m.tmod 3 = 0), by omega, by omega, fun b hb e => ?_, fun b hb e => ?_⟩
  · have g2 : (i : Int) < (b.length : Int) := by omega
    simp only [L_w_markBoolS_0, dec_true g1, dec_true g2, cond_true, Int.toNat_natCast, w1, wi]
  · have g2 : (i : Int) < (b.length : Int) := by omega
    have hr : rd .bool b (i : Int) = decide (m.tmod 3 = 0) := by rw [rd_bool (by omega)]; exact e
    simp only [L_w_heldBoolS_0, dec_true g1, dec_true g2, cond_true, w1, wi, hr]
    simp
theorem mh_intS (a : List Int) (h : a.length ≤ 1048576) : MH (P_w_markIntS a) P_w_heldIntS (cost (fun _ => 1) a) := by
  refine mhS_gen L_w_markIntS_0 L_w_heldIntS_0 (fun _ => 1) a h (fun i hi m h0 h1 => ?_) (fun m b hb => by simp [L_w_markIntS_0, hb]) (fun m b hb => by simp [L_w_heldIntS_0, hb])
  have w1 : IntKind.i64.wrap (m + 1) = m + 1 := w64 (by omega) (by omega)
  have wi : IntKind.i64.wrap ((i : Int) + 1) = (i : Int) + 1 := w64 (by omega) (by omega)
  have g1 : (0 : Int) ≤ (i : Int) := by omega
  refine ⟨m + 1, m, by omega, by omega, fun b hb e => ?_, fun b hb e => ?_⟩
  · have g2 : (i : Int) < (b.length : Int) := by omega
    simp only [L_w_markIntS_0, dec_true g1, dec_true g2, cond_true, Int.toNat_natCast, w1, wi]
  · have g2 : (i : Int) < (b.length : Int) := by omega
    have hr : rd (.int .i64) b (i : Int) = m := by rw [rd_int (by omega)]; exact e
    simp only [L_w_heldIntS_0, dec_true g1, dec_true g2, cond_true, w1, wi, hr]
    simp
theorem mh_clientS (a : List TClient) (h : a.length ≤ 1048576) : MH (P_w_markClientS a) P_w_heldClientS (cost (fun u => List.length u.2.1 + 3) a) := by
  refine mhS_gen (L_w_markClientS_0 P_w_markByteS P_w_markText) (L_w_heldClientS_0 P_w_heldByteS P_w_markText) (fun u => List.length u.2.1 + 3) a h (fun i hi m h0 h1 => ?_) (fun m b hb => by simp [L_w_markClientS_0, hb]) (fun m b hb => by simp [L_w_heldClientS_0, hb])
  obtain ⟨m1, d, e1, b1, b2, e2⟩ := mh_byteS a[i].2.1 (m + 1) (by omega) (by omega)
  have w1 : IntKind.i64.wrap (m + 1) = m + 1 := w64 (by omega) (by omega)
  have w2 : IntKind.i64.wrap (m1 + 1) = m1 + 1 := w64 (by omega) (by omega)
  have w3 : IntKind.i64.wrap (m1 + 1 + 1) = m1 + 1 + 1 := w64 (by omega) (by omega)
  have wi : IntKind.i64.wrap ((i : Int) + 1) = (i : Int) + 1 := w64 (by omega) (by omega)
  have g1 : (0 : Int) ≤ (i : Int) := by omega
  have ht := markText_eq m (by omega)
  refine ⟨m1 + 1 + 1, (mt m, d, m1, m1 + 1), by omega, by omega, fun b hb e => ?_, fun b hb e => ?_⟩
  · have hib : i < b.length := by omega
    have g2 : (i : Int) < (b.length : Int) := by omega
    have hr : rd kClient b (i : Int) = a[i] := by rw [rd_nat (k := kClient) (xs := b) (by omega)]; exact e
    simp only [L_w_markClientS_0, bindO, ht, List.length_set, dec_true g1, dec_true g2, cond_true, Int.toNat_natCast, w1, w2, w3, wi, List.set_set, rd_set (k := kClient) hib, hr, e1]
  · have g2 : (i : Int) < (b.length : Int) := by omega
    have hr : rd kClient b (i : Int) = (mt m, d, m1, m1 + 1) := by rw [rd_nat (k := kClient) (xs := b) (by omega)]; exact e
    simp only [L_w_heldClientS_0, bindO, ht, dec_true g1, dec_true g2, cond_true, w1, w2, w3, wi, hr, e2]
    rw [dec_false (show ¬ m1 < 0 by omega)]
    simp
theorem mh_wantS (a : List TWant) (h : a.length ≤ 1048576) : MH (P_w_markWantS a) P_w_heldWantS (cost (fun u => List.length u.2.2 + 4) a) := by
  refine mhS_gen (L_w_markWantS_0 P_w_markByteS P_w_markText) (L_w_heldWantS_0 P_w_heldByteS P_w_markText) (fun u => List.length u.2.2 + 4) a h (fun i hi m h0 h1 => ?_) (fun m b hb => by simp [L_w_markWantS_0, hb]) (fun m b hb => by simp [L_w_heldWantS_0, hb])
  obtain ⟨m1, d, e1, b1, b2, e2⟩ := mh_byteS a[i].2.2 (m + 1 + 1 + 1 + 1) (by omega) (by omega)
  have w1 : IntKind.i64.wrap (m + 1) = m + 1 := w64 (by omega) (by omega)
  have w2 : IntKind.i64.wrap (m + 1 + 1) = m + 1 + 1 := w64 (by omega) (by omega)
  have w3 : IntKind.i64.wrap (m + 1 + 1 + 1) = m + 1 + 1 + 1 := w64 (by omega) (by omega)
  have w4 : IntKind.i64.wrap (m + 1 + 1 + 1 + 1) = m + 1 + 1 + 1 + 1 := w64 (by omega) (by omega)
  have wi : IntKind.i64.wrap ((i : Int) + 1) = (i : Int) + 1 := w64 (by omega) (by omega)
  have g1 : (0 : Int) ≤ (i : Int) := by omega
  have ht := markText_eq (m + 1 + 1) (by omega)
  refine ⟨m1, (m, (m + 1, mt (m + 1 + 1), m + 1 + 1 + 1), d), by omega, by omega, fun b hb e => ?_, fun b hb e => ?_⟩
  · have hib : i < b.length := by omega
    have g2 : (i : Int) < (b.length : Int) := by omega
    have hr : rd kWant b (i : Int) = a[i] := by rw [rd_nat (k := kWant) (xs := b) (by omega)]; exact e
    simp only [L_w_markWantS_0, bindO, List.length_set, dec_true g1, dec_true g2, cond_true, Int.toNat_natCast, w1, w2, w3, w4, wi, List.set_set, rd_set (k := kWant) hib, hr, ht, e1]
  · have g2 : (i : Int) < (b.length : Int) := by omega
    have hr : rd kWant b (i : Int) = (m, (m + 1, mt (m + 1 + 1), m + 1 + 1 + 1), d) := by rw [rd_nat (k := kWant) (xs := b) (by omega)]; exact e
    simp only [L_w_heldWantS_0, bindO, dec_true g1, dec_true g2, cond_true, w1, w2, w3, w4, wi, hr, ht, e2]
    rw [dec_false (show ¬ m1 < 0 by omega)]
    simp

def nWorld (w : TWorld) : Nat := nServer w.1 + cost (fun u : TClient => List.length u.2.1 + 3) w.2.1 + cost (fun _ : Bool => 1) w.2.2.1 + cost (fun u : TWant => List.length u.2.2 + 4) w.2.2.2.1 + cost (fun _ : THeld => 3) w.2.2.2.2.1 + cost (fun _ : Int => 1) w.2.2.2.2.2
/-- A world whose rows are not too long. -/
def WorL (w : TWorld) : Prop := w.1.1.2.2.2.length ≤ 1048576 ∧ w.1.2.length ≤ 1048576 ∧ w.2.1.length ≤ 1048576 ∧ w.2.2.1.length ≤ 1048576 ∧ w.2.2.2.1.length ≤ 1048576 ∧ w.2.2.2.2.1.length ≤ 1048576 ∧ w.2.2.2.2.2.length ≤ 1048576
theorem mh_world (w : TWorld) (h : WorL w) (m : Int) (h0 : 0 ≤ m) (h1 : m + nWorld w < 4611686018427387904) :
    ∃ m' y1 y2 y3 y4, P_w_markWorld w m = some (m', (((y1, w.1.1.2.1, w.1.1.2.2.1, y2), y3), y4), ()) ∧ m ≤ m' ∧ m' ≤ m + nWorld w ∧ ∀ a b, P_w_heldWorld (((y1, a, b, y2), y3), y4) m = some (m', ()) := by
  obtain ⟨l1, l2, l3, l4, l5, l6, l7⟩ := h
  unfold nWorld at *
  obtain ⟨m1, y1, y2, y3, e1, a1, b1, f1⟩ := mh_server w.1 l1 l2 m h0 (by omega)
  obtain ⟨m2, z2, e2, a2, b2, f2⟩ := mh_clientS w.2.1 l3 m1 (by omega) (by omega)
  obtain ⟨m3, z3, e3, a3, b3, f3⟩ := mh_boolS w.2.2.1 l4 m2 (by omega) (by omega)
  obtain ⟨m4, z4, e4, a4, b4, f4⟩ := mh_wantS w.2.2.2.1 l5 m3 (by omega) (by omega)
  obtain ⟨m5, z5, e5, a5, b5, f5⟩ := mh_heldS w.2.2.2.2.1 l6 m4 (by omega) (by omega)
  obtain ⟨m6, z6, e6, a6, b6, f6⟩ := mh_intS w.2.2.2.2.2 l7 m5 (by omega) (by omega)
  refine ⟨m6, y1, y2, y3, (z2, z3, z4, z5, z6), ?_, by omega, by omega, fun a b => ?_⟩
  · simp only [P_w_markWorld, B_w_markWorld, e1, e2, e3, e4, e5, e6, bindO]
  · simp only [P_w_heldWorld, B_w_heldWorld, f1, f2, f3, f4, f5, f6, bindO]
    rw [dec_false (show ¬ m1 < 0 by omega), dec_false (show ¬ m2 < 0 by omega), dec_false (show ¬ m3 < 0 by omega), dec_false (show ¬ m4 < 0 by omega), dec_false (show ¬ m5 < 0 by omega), dec_false (show ¬ m6 < 0 by omega)]
    rfl
end Go.Proofs.YtmdbndbfhgdhfaaGreat.Ev
