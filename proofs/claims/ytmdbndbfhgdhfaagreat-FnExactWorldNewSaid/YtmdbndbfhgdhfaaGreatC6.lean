/- Whether a world is right: of the program and of the reference. -/
import Derived.Test.YtmdbndbfhgdhfaaGreatC3
set_option linter.unusedVariables false
set_option linter.unusedSimpArgs false
namespace Go.Proofs.YtmdbndbfhgdhfaaGreat.Ev

def reqMost (op : Int) : Int := if op = 1 then 1000000000 else if op = 3 then 1000000000 else if op = 4 then 4294967295 else 0
def reqOkB (r : TReq) : Bool := decide (1 ≤ r.1 ∧ r.1 ≤ 6) && idB r.2.1 && decide (0 ≤ r.2.2 ∧ r.2.2 ≤ reqMost r.1)
theorem s_ReqOk_eq (r : TReq) (h : r.2.1.size ≤ maxLen) : P_s_ReqOk r = some (reqOkB r, ()) := by
  simp only [P_s_ReqOk, B_s_ReqOk, l1In_eq, l11Id_eq _ h, bindO, reqOkB, P_s_l11Most, B_s_l11Most, reqMost]
  cases decide (1 ≤ r.1 ∧ r.1 ≤ 6)
  · rfl
  cases idB r.2.1
  · rfl
  simp only [Bool.not_true, cond_false, bindS, Bool.true_and]
  have hz : decide (0 ≤ r.2.2 ∧ r.2.2 ≤ 0) = decide (r.2.2 = 0) := by
    by_cases h0 : r.2.2 = 0
    · rw [dec_true h0, dec_true (by omega)]
    · rw [dec_false h0, dec_false (by omega)]
  by_cases h1 : r.1 = 1
  · simp [h1]
  by_cases h3 : r.1 = 3
  · simp [h3]
  by_cases h4 : r.1 = 4
  · simp [h4]
  simp [h1, h3, h4]
  rw [Bool.eq_iff_iff]
  simp
  omega
theorem i_ReqOk_eq (r : TReq) (h : r.2.1.size ≤ maxLen) : P_i_ReqOk r = some (reqOkB r, ()) := by
  simp only [P_i_ReqOk, B_i_ReqOk, inRange_eq, idOk_eq _ h, bindO, reqOkB, P_i_numberField, B_i_numberField, reqMost]
  by_cases h1 : r.1 = 1
  · simp [h1]; cases idB r.2.1 <;> simp
  by_cases h3 : r.1 = 3
  · simp [h3]; cases idB r.2.1 <;> simp
  by_cases h4 : r.1 = 4
  · simp [h4]; cases idB r.2.1 <;> simp
  simp only [dec_false h1, dec_false h3, dec_false h4, if_neg h1, if_neg h3, if_neg h4, cond_false]
  cases decide (1 ≤ r.1 ∧ r.1 ≤ 6) <;> cases idB r.2.1 <;> simp

def heldB (n : Nat) (h : THeld) : Bool := respOkB h.2 && decide (0 ≤ h.1 ∧ h.1 ≤ (n : Int) - 1)
def heldsB (n : Nat) (l : List THeld) : Bool := (List.range l.length).all fun i => heldB n (rd kHeld l (i : Int))
theorem s_Who_eq (w : TWorld) (l : List THeld) (h : l.length ≤ maxLen) (hc : w.2.1.length ≤ 1048576) : P_s_l18Who w l = some (heldsB w.2.1.length l, ()) := by
  simp only [P_s_l18Who, B_s_l18Who, heldsB]
  refine loopB _ l.length h (fun i => heldB w.2.1.length (rd kHeld l (i : Int))) (fun i hi => ?_) (by simp [L_s_l18Who_0])
  have g1 : ((i : Int) < (l.length : Int)) := by omega
  have g2 : (0 : Int) ≤ (i : Int) := by omega
  simp only [L_s_l18Who_0, dec_true g1, dec_true g2, cond_true, l1In_eq, s_RespOk_eq, bindO, heldB]
  rw [w64 (n := (w.2.1.length : Int) - 1) (by omega) (by omega)]
  cases decide (0 ≤ (rd kHeld l (i : Int)).1 ∧ (rd kHeld l (i : Int)).1 ≤ (w.2.1.length : Int) - 1) <;> cases respOkB (rd kHeld l (i : Int)).2 <;> rfl
theorem i_Who_eq (w : TWorld) (l : List THeld) (h : l.length ≤ maxLen) (hc : w.2.1.length ≤ 1048576) : P_i_heldOk w l = some (heldsB w.2.1.length l, ()) := by
  simp only [P_i_heldOk, B_i_heldOk, heldsB]
  refine loopB _ l.length h (fun i => heldB w.2.1.length (rd kHeld l (i : Int))) (fun i hi => ?_) (by simp [L_i_heldOk_0])
  have g1 : ((i : Int) < (l.length : Int)) := by omega
  have g2 : (0 : Int) ≤ (i : Int) := by omega
  simp only [L_i_heldOk_0, dec_true g1, dec_true g2, cond_true, inRange_eq, i_RespOk_eq, bindO, heldB]
  rw [w64 (n := (w.2.1.length : Int) - 1) (by omega) (by omega)]
  cases decide (0 ≤ (rd kHeld l (i : Int)).1 ∧ (rd kHeld l (i : Int)).1 ≤ (w.2.1.length : Int) - 1) <;> cases respOkB (rd kHeld l (i : Int)).2 <;> rfl

def ClsS (w : TWorld) : Prop := w.2.1.length ≤ 1048576 ∧ ∀ c ∈ w.2.1, c.1.size ≤ maxLen

theorem cls_inner_s (w : TWorld) (h : ClsS w) (i : Nat) (hi : i < w.2.1.length) : ∃ z, loopO (L_s_l18Clients_0 ((i : Int), ()) w) (0, ()) = some z ∧ (z = .inl ((i : Int) + 1, ()) ∨ z = .inr (.inr (false, ()))) := by
  have hl := h.1
  refine loopO_ind (L_s_l18Clients_0 ((i : Int), ()) w) (fun l => ((i : Int) - l.1).toNat) (fun l => 0 ≤ l.1) (fun z => z = .inl ((i : Int) + 1, ()) ∨ z = .inr (.inr (false, ()))) (fun l h0 => ?_) (0, ()) (by simp)
  simp only [L_s_l18Clients_0]
  by_cases hj : l.1 < (i : Int)
  · rw [dec_true hj, dec_true h0, dec_true (show l.1 < (w.2.1.length : Int) by omega), dec_true (show (0 : Int) ≤ (i : Int) by omega), dec_true (show (i : Int) < (w.2.1.length : Int) by omega)]
    simp only [cond_true]
    rw [w64 (n := l.1 + 1) (by omega) (by omega)]
    cases ((rd kClient w.2.1 l.1).1.toList == (rd kClient w.2.1 (i : Int)).1.toList)
    · exact .inl ⟨_, rfl, by simp only; omega, by simp only; omega⟩
    · exact .inr ⟨_, rfl, .inr rfl⟩
  · rw [dec_false hj, w64 (n := (i : Int) + 1) (by omega) (by omega)]
    exact .inr ⟨_, rfl, .inl rfl⟩
theorem cls_inner_i (w : TWorld) (h : ClsS w) (i : Nat) (hi : i < w.2.1.length) : loopO (L_i_clientsOk_0 w ((i : Int), ())) (0, ()) = loopO (L_s_l18Clients_0 ((i : Int), ()) w) (0, ()) := by
  have hl := h.1
  have hlen : ((w.2.1.take i).drop 0).length = i := by simp; omega
  refine loopO_congr (fun l => 0 ≤ l.1) (fun l h0 => ?_) (fun l y h0 e => ?_) (by simp)
  · simp only [L_i_clientsOk_0, L_s_l18Clients_0, Int.toNat_natCast, hlen]
    by_cases hj : l.1 < (i : Int)
    · obtain ⟨j, hn⟩ : ∃ j : Nat, l.1 = (j : Int) := ⟨l.1.toNat, by omega⟩
      rw [hn] at hj h0 ⊢
      rw [dec_true hj, dec_true h0, dec_true (show (j : Int) < (w.2.1.length : Int) by omega), dec_true (show (0 : Int) ≤ (i : Int) by omega), dec_true (show (i : Int) < (w.2.1.length : Int) by omega)]
      simp only [cond_true]
      have e : rd kClient ((w.2.1.take i).drop 0) (j : Int) = rd kClient w.2.1 (j : Int) := by
        rw [rd_nat (k := kClient) (xs := (w.2.1.take i).drop 0) (by rw [hlen]; omega), rd_nat (k := kClient) (xs := w.2.1) (by omega)]
        simp
      rw [e]
    · rw [dec_false hj]
      rfl
  · simp only [L_i_clientsOk_0, Int.toNat_natCast, hlen] at e
    by_cases hj : l.1 < (i : Int)
    · rw [dec_true hj, dec_true h0] at e
      simp only [cond_true] at e
      rw [w64 (n := l.1 + 1) (by omega) (by omega)] at e
      revert e
      cases ((rd kClient ((w.2.1.take i).drop 0) l.1).1.toList == (rd kClient w.2.1 (i : Int)).1.toList)
      · intro e
        simp only [cond_false] at e
        injection e with e; injection e with e; subst e
        simp only; omega
      · intro e
        simp only [cond_true] at e
        injection e with e; cases e
    · rw [dec_false hj] at e
      simp only [cond_false] at e
      injection e with e; cases e

theorem cls_step (w : TWorld) (h : ClsS w) (l : Int × Unit) (h0 : 0 ≤ l.1) :
    L_i_clientsOk_1 P_i_ClientOk w l = L_s_l18Clients_1 P_s_ClientOk w l ∧ ((∃ y, L_s_l18Clients_1 P_s_ClientOk w l = some (.inl y) ∧ y.1 = l.1 + 1 ∧ l.1 < (w.2.1.length : Int)) ∨ L_s_l18Clients_1 P_s_ClientOk w l = some (.inr (.inl ())) ∨ L_s_l18Clients_1 P_s_ClientOk w l = some (.inr (.inr (false, ())))) := by
  have hl := h.1
  simp only [L_i_clientsOk_1, L_s_l18Clients_1]
  by_cases hi : l.1 < (w.2.1.length : Int)
  · obtain ⟨i, hn⟩ : ∃ i : Nat, l.1 = (i : Int) := ⟨l.1.toNat, by omega⟩
    obtain ⟨l1, u⟩ := l
    simp only at hn hi h0
    subst hn
    have hi' : i < w.2.1.length := by omega
    have hsz : (rd kClient w.2.1 (i : Int)).1.size ≤ maxLen := by
      rw [rd_nat (k := kClient) (xs := w.2.1) hi']
      exact h.2 _ (List.getElem_mem hi')
    simp only
    rw [dec_true hi, dec_true h0, i_ClientOk_eq _ hsz, s_ClientOk_eq _ hsz, dec_true (show (i : Int) ≤ (w.2.1.length : Int) by omega), cls_inner_i w h i hi']
    simp only [cond_true, bindO]
    cases clientOkB (rd kClient w.2.1 (i : Int)) with
    | false => exact ⟨trivial, .inr (.inr rfl)⟩
    | true =>
      obtain ⟨z, e, hz⟩ := cls_inner_s w h i hi'
      simp only [Bool.not_true, cond_false]
      refine ⟨trivial, ?_⟩
      rw [e]
      rcases hz with rfl | rfl
      · exact .inl ⟨_, rfl, rfl, hi⟩
      · exact .inr (.inr rfl)
  · rw [dec_false hi]
    exact ⟨rfl, .inr (.inl rfl)⟩

theorem clients_eq (w : TWorld) (h : ClsS w) : ∃ b, P_s_l18Clients w = some (b, ()) ∧ P_i_clientsOk w = some (b, ()) ∧ (b = true → w.2.1.length ≤ 6 ∧ w.2.2.1.length = w.2.1.length ∧ w.2.2.2.2.2.length = w.2.1.length) := by
  have hl := h.1
  have e1 : loopO (L_i_clientsOk_1 P_i_ClientOk w) (0, ()) = loopO (L_s_l18Clients_1 P_s_ClientOk w) (0, ()) := by
    refine loopO_congr (fun l => 0 ≤ l.1) (fun l h0 => (cls_step w h l h0).1) (fun l y h0 e => ?_) (by simp)
    rw [(cls_step w h l h0).1] at e
    rcases (cls_step w h l h0).2 with ⟨y', e2, e3, _⟩ | e2 | e2
    · rw [e2] at e; injection e with e; injection e with e; subst e; omega
    · rw [e2] at e; injection e with e; cases e
    · rw [e2] at e; injection e with e; cases e
  obtain ⟨z, e2, hz⟩ := loopO_ind (L_s_l18Clients_1 P_s_ClientOk w) (fun l => ((w.2.1.length : Int) - l.1).toNat) (fun l => 0 ≤ l.1) (fun z => z = .inl () ∨ z = .inr (false, ())) (fun l h0 => by
    rcases (cls_step w h l h0).2 with ⟨y', e2, e3, e4⟩ | e2 | e2
    · exact .inl ⟨y', e2, by omega, by omega⟩
    · exact .inr ⟨_, e2, .inl rfl⟩
    · exact .inr ⟨_, e2, .inr rfl⟩) (0, ()) (by simp)
  simp only [P_s_l18Clients, B_s_l18Clients, P_i_clientsOk, B_i_clientsOk, e1, e2]
  rcases hz with rfl | rfl
  · simp only [bindS]
    by_cases h1 : (w.2.1.length : Int) ≤ 6
    · rw [dec_true h1]
      by_cases h2 : (w.2.2.1.length : Int) = (w.2.1.length : Int)
      · rw [dec_true h2]
        refine ⟨_, rfl, rfl, fun e => ?_⟩
        have e3 := of_decide_eq_true e
        omega
      · rw [dec_false h2]
        exact ⟨_, rfl, rfl, fun e => by cases e⟩
    · rw [dec_false h1]
      exact ⟨_, rfl, rfl, fun e => by cases e⟩
  · exact ⟨_, rfl, rfl, fun e => by cases e⟩

def wantB (n : Nat) (a : TWant) : Bool := reqOkB a.2.1 && decide (0 ≤ a.1 ∧ a.1 ≤ (n : Int) - 1)

/-- A world that is not too large. -/
def WorS (w : TWorld) : Prop := Secs w.1.1.1.1 ∧ w.1.2.length ≤ 1048576 ∧ ClsS w ∧ (w.2.2.2.1.length ≤ 1048576 ∧ ∀ a ∈ w.2.2.2.1, a.2.1.2.1.size ≤ maxLen) ∧ w.2.2.2.2.1.length ≤ 1048576

theorem worldOk_eq (w : TWorld) (h : WorS w) : ∃ b, P_s_WorldOk w = some (b, ()) ∧ P_i_WorldOk w = some (b, ()) := by
  obtain ⟨h1, h2, h3, ⟨h4, h4'⟩, h5⟩ := h
  have hc := h3.1
  obtain ⟨bs, es, ei, _⟩ := serverOk_eq w.1 h1 h2
  obtain ⟨bc, cs, ci, _⟩ := clients_eq w h3
  have ht := s_Who_eq w w.2.2.2.2.1 (by simp only [maxLen]; omega) hc
  have ht' := i_Who_eq w w.2.2.2.2.1 (by simp only [maxLen]; omega) hc
  have hh := s_Who_eq w w.1.2 (by simp only [maxLen]; omega) hc
  have hh' := i_Who_eq w w.1.2 (by simp only [maxLen]; omega) hc
  have hloop := loopB (L_s_WorldOk_0 P_s_ReqOk P_s_l1In w) w.2.2.2.1.length (by simp only [maxLen]; omega) (fun i => wantB w.2.1.length (rd kWant w.2.2.2.1 (i : Int))) (fun i hi => by
    have g1 : ((i : Int) < (w.2.2.2.1.length : Int)) := by omega
    have g2 : (0 : Int) ≤ (i : Int) := by omega
    have hsz : (rd kWant w.2.2.2.1 (i : Int)).2.1.2.1.size ≤ maxLen := by
      rw [rd_nat (k := kWant) (xs := w.2.2.2.1) hi]
      exact h4' _ (List.getElem_mem hi)
    simp only [L_s_WorldOk_0, dec_true g1, dec_true g2, cond_true, l1In_eq, s_ReqOk_eq _ hsz, bindO, wantB]
    rw [w64 (n := (w.2.1.length : Int) - 1) (by omega) (by omega)]
    cases decide (0 ≤ (rd kWant w.2.2.2.1 (i : Int)).1 ∧ (rd kWant w.2.2.2.1 (i : Int)).1 ≤ (w.2.1.length : Int) - 1) <;> cases reqOkB (rd kWant w.2.2.2.1 (i : Int)).2.1 <;> rfl) (by simp [L_s_WorldOk_0])
  have istep : ∀ i : Nat, i < w.2.2.2.1.length → L_i_WorldOk_0 P_i_ReqOk P_i_inRange w ((i : Int), ()) = bif wantB w.2.1.length (rd kWant w.2.2.2.1 (i : Int)) then some (.inl (((i + 1 : Nat) : Int), ())) else some (.inr (.inr (false, ()))) := fun i hi => by
    have g1 : ((i : Int) < (w.2.2.2.1.length : Int)) := by omega
    have g2 : (0 : Int) ≤ (i : Int) := by omega
    have hsz : (rd kWant w.2.2.2.1 (i : Int)).2.1.2.1.size ≤ maxLen := by
      rw [rd_nat (k := kWant) (xs := w.2.2.2.1) hi]
      exact h4' _ (List.getElem_mem hi)
    have e1 : ((i + 1 : Nat) : Int) = (i : Int) + 1 := by omega
    simp only [L_i_WorldOk_0, dec_true g1, dec_true g2, cond_true, inRange_eq, i_ReqOk_eq _ hsz, bindO, wantB, e1]
    rw [w64 (n := (w.2.1.length : Int) - 1) (by omega) (by omega), w64 (n := (i : Int) + 1) (by omega) (by omega)]
    cases decide (0 ≤ (rd kWant w.2.2.2.1 (i : Int)).1 ∧ (rd kWant w.2.2.2.1 (i : Int)).1 ≤ (w.2.1.length : Int) - 1) <;> cases reqOkB (rd kWant w.2.2.2.1 (i : Int)).2.1 <;> rfl
  simp only [P_s_WorldOk, B_s_WorldOk, P_i_WorldOk, B_i_WorldOk, es, ei, cs, ci, ht, ht', hh, hh', hloop, bindO]
  have hirest : (bif heldsB w.2.1.length w.2.2.2.2.1 then bif heldsB w.2.1.length w.1.2 then some (bs, ()) else some (false, ()) else some (false, ())) = some (heldsB w.2.1.length w.2.2.2.2.1 && heldsB w.2.1.length w.1.2 && bs, ()) := by
    cases heldsB w.2.1.length w.2.2.2.2.1 <;> cases heldsB w.2.1.length w.1.2 <;> rfl
  have hi := strs_of istep (by simp [L_i_WorldOk_0]) (fun _ => (bif heldsB w.2.1.length w.2.2.2.2.1 then bif heldsB w.2.1.length w.1.2 then some (bs, ()) else some (false, ()) else some (false, ()))) _ hirest
  rw [firstN_all] at hi
  generalize ((List.range w.2.2.2.1.length).all fun i => wantB w.2.1.length (rd kWant w.2.2.2.1 (i : Int))) = ba at hi ⊢
  cases bc with
  | false =>
    cases bs <;> exact ⟨_, rfl, rfl⟩
  | true =>
    simp only [Bool.not_true, cond_false]
    cases decide ((w.2.2.2.1.length : Int) > 60) with
    | true => cases bs <;> exact ⟨_, rfl, rfl⟩
    | false =>
      cases decide ((w.2.2.2.2.1.length : Int) > 60) with
      | true => cases bs <;> exact ⟨_, rfl, rfl⟩
      | false =>
        simp only [cond_false]
        have e0 : ∀ g : Unit → Option (Bool × Unit), bindS (some (.inl () : Unit ⊕ (Bool × Unit))) g = g () := fun g => rfl
        simp only [e0]
        refine ⟨_, ?_, hi⟩
        cases bs <;> cases heldsB w.2.1.length w.2.2.2.2.1 <;> cases heldsB w.2.1.length w.1.2 <;> simp [bindS]
end Go.Proofs.YtmdbndbfhgdhfaaGreat.Ev
