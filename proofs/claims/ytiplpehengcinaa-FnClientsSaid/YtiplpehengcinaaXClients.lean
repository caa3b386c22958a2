/- A drawn client's request is right; told how far it is, it goes on from there; cut off it asks: the law FnClients. -/
import Derived.Test.YtiplpehengcinaaA7
import Derived.Test.YtiplpehengcinaaA6i
import Derived.Test.YtiplpehengcinaaA13
set_option linter.unusedVariables false
set_option linter.unusedSimpArgs false
namespace Go.Proofs.Ytiplpehengcinaa.Ev

/-- A drawn client. -/
def DC (c : Client) : Prop := c.1.size ≤ 1048576 ∧ c.2.1.length ≤ 60 ∧ Byt c.2.1

theorem hearResp_same (c : Client) (r : Resp) : (hearResp c r).1 = c.1 ∧ (hearResp c r).2.1 = c.2.1 := by
  unfold hearResp hear far
  repeat' split
  all_goals exact ⟨rfl, rfl⟩

theorem hearResp_dc {c : Client} (r : Resp) (h : DC c) : DC (hearResp c r) := by
  obtain ⟨e1, e2⟩ := hearResp_same c r
  unfold DC
  rw [e1, e2]
  exact h

def newC (id : ByteArray) (f : List Int) : Client := if clientOkB (id, f, 1, 0) then (id, f, 1, 0) else (⟨#[]⟩, [], 0, 0)
theorem s_ClientNew_ok (id : ByteArray) (f : List Int) (h : id.size ≤ maxLen) (h2 : f.length ≤ 140737488355328) : P_s_ClientNew id f = some (newC id f, ()) := by
  simp only [P_s_ClientNew, B_s_ClientNew]
  rw [dec_true (by simp; omega), dec_true (by simp; omega)]
  simp only [cond_true, List.nil_append]
  rw [s_ClientOk_eq _ h]
  simp only [bindO, newC]
  cases clientOkB (id, f, 1, 0) <;> simp
theorem newC_dc {id : ByteArray} {f : List Int} (h : DC (id, f, 1, 0)) : DC (newC id f) := by
  unfold newC
  split
  · exact h
  · exact ⟨Nat.zero_le _, Nat.zero_le _, fun x hx => by cases hx⟩

def cutOffC (c : Client) : Client := if clientOkB c && !overB c then (c.1, c.2.1, 2, c.2.2.2) else c
theorem i_CutOff_ok (c : Client) (h : c.1.size ≤ maxLen) (h2 : c.2.1.length ≤ 140737488355328) : P_i_CutOff c = some (cutOffC c, ()) := by
  simp only [P_i_CutOff, B_i_CutOff, pe, copyClient_eq _ h2, i_ClientOk_eq _ h, isOver_eq, bindO, cutOffC]
  cases clientOkB c <;> cases overB c <;> simp

theorem sameBytes_refl (a : List Int) (h : a.length ≤ maxLen) : P_w_sameBytes a a = some (true, ()) := by
  simp only [P_w_sameBytes, B_w_sameBytes]
  simp only [decide_true, Bool.not_true, cond_false]
  refine loopO_count (L_w_sameBytes_0 a a) (fun i => ((i : Int), ())) a.length (true, ()) (fun i hi => ?_) ?_
  · have h1 : ((i : Int) < (a.length : Int)) := by omega
    have h2 : (0 : Int) ≤ (i : Int) := by omega
    simp only [L_w_sameBytes_0, dec_true h1, dec_true h2, cond_true, decide_true, Bool.not_true, cond_false]
    rw [w64 (by omega) (by simp only [maxLen] at h; omega)]
    rfl
  · simp [L_w_sameBytes_0]

theorem l1Once_ok (c : TL1Cur) (n : Int) (h : Cur c) (hn : 0 < n ∧ n < 9223372036854775808) : ∃ b c', P_s_l1Once c n = some (b, c', ()) ∧ Cur c' := by
  obtain ⟨r, c', e, hc, _⟩ := l1Below_ok c n h hn
  exact ⟨decide (r = 0), c', by simp only [P_s_l1Once, B_s_l1Once, e, bindO], hc⟩

theorem l17Draw_ok (c : TL1Cur) (h : Cur c) : ∃ d c', P_s_l17Draw_r0_0 c = some (d, c', ()) ∧ DC d ∧ Cur c' := by
  obtain ⟨id, c1, e1, hc1, hid⟩ := l1Str_ok c [(⟨#[97]⟩ : ByteArray), (⟨#[98]⟩ : ByteArray), (⟨#[117, 112, 49]⟩ : ByteArray)] h (by simp)
  obtain ⟨n, c2, e2, hc2, hn⟩ := l1Int_ok c1 [0, 5, 24, 60] hc1 (by simp)
  have hn : 0 ≤ n ∧ n ≤ 60 := by simp at hn; omega
  obtain ⟨f, c3, e3, hc3, hl, hb⟩ := l1Bytes_ok c2 n hc2 (by omega)
  have hs : id.size ≤ 1048576 := by
    simp only [List.mem_cons, List.not_mem_nil, or_false] at hid
    rcases hid with rfl | rfl | rfl <;> decide
  have hd : DC (id, f, 1, 0) := ⟨hs, by simp only; omega, hb⟩
  have hnew := newC_dc hd
  obtain ⟨k, c4, e4, hc4, hk⟩ := l1Below_ok c3 6 hc3 (by omega)
  simp only [P_s_l17Draw_r0_0, B_s_l17Draw_r0_0, e1, e2, e3, e4, s_ClientNew_ok id f (by simp only [maxLen]; omega) (by omega), bindO]
  obtain ⟨z, e, hz⟩ := loopO_ind (L_s_l17Draw_r0_0_0 P_s_HearResp P_s_l1Int) (fun l => l.1.toNat) (fun l => l.1 ≤ 6 ∧ DC (l.2.1, l.2.2.2.2.2.2.2.1, l.2.2.1, l.2.2.2.1) ∧ Cur (l.2.2.2.2.1, l.2.2.2.2.2.1, l.2.2.2.2.2.2.1))
    (fun z => DC z.1 ∧ Cur z.2.1) (fun l hl => by
      obtain ⟨h0, hdc, hcur⟩ := hl
      simp only [L_s_l17Draw_r0_0_0]
      by_cases hi : l.1 > 0
      · obtain ⟨a, d1, f1, g1, _⟩ := l1Int_ok _ [200, 201, 204, 409, 404] hcur (by simp)
        obtain ⟨b, d2, f2, g2, _⟩ := l1Int_ok d1 [0, 5, 24, 48, 60, (l.2.2.2.2.2.2.2.1.length : Int)] g1 (by simp)
        have hh := s_HearResp_eq (l.2.1, l.2.2.2.2.2.2.2.1, l.2.2.1, l.2.2.2.1) (a, b) (by have := hdc.1; simp only [maxLen] at this ⊢; omega) (by have := hdc.2.1; simp only at this ⊢; omega)
        generalize hH : hearResp (l.2.1, l.2.2.2.2.2.2.2.1, l.2.2.1, l.2.2.2.1) (a, b) = H at hh
        have hHd : DC H := hH ▸ hearResp_dc _ hdc
        refine .inl ⟨(IntKind.i64.wrap (l.1 - 1), H.1, H.2.2.1, H.2.2.2, d2.1, d2.2.1, d2.2.2, H.2.1, ()), ?_, ?_, ?_⟩
        · rw [dec_true hi, f1]
          simp only [cond_true, bindO]
          rw [f2]
          simp only
          rw [hh]
        · exact ⟨by simp only; rw [w64 (by omega) (by omega)]; omega, hHd, g2⟩
        · simp only
          rw [w64 (by omega) (by omega)]
          omega
      · rw [dec_false hi]
        exact .inr ⟨_, rfl, hdc, hcur⟩) (k, (newC id f).1, (newC id f).2.2.1, (newC id f).2.2.2, c4.1, c4.2.1, c4.2.2, (newC id f).2.1, ()) ⟨by simp only; omega, hnew, hc4⟩
  exact ⟨z.1, z.2.1, e, hz⟩

set_option maxRecDepth 100000 in
theorem l17Any_ok (c : TL1Cur) (h : Cur c) : ∃ d c', P_s_l17Any_r0_0 c = some (d, c', ()) ∧ DC d ∧ Cur c' := by
  obtain ⟨d, c1, e1, hd, hc1⟩ := l17Draw_ok c h
  obtain ⟨b, c2, e2, hc2⟩ := l1Once_ok c1 2 hc1 (by omega)
  simp only [P_s_l17Any_r0_0, B_s_l17Any_r0_0, e1, e2, bindO]
  have key : ∀ (d : Client) (c : TL1Cur), DC d → Cur c → ∃ d' c', (bindO (P_s_l1Below c 14) fun c13 => bif decide (c13.1 = 0) then bindO (P_s_l1Int c13.2.1 [0, 7]) fun c18 => some ((d.1, (d.2.1, (c18.1, d.2.2.2))), c18.2.1, ())
      else bif decide (c13.1 = 1) then bindO (P_s_l1Int c13.2.1 [(-1), (d.2.1.length : Int), (IntKind.i64.wrap ((d.2.1.length : Int) + 1))]) fun c31 => some ((d.1, (d.2.1, (d.2.2.1, c31.1))), c31.2.1, ())
      else bif decide (c13.1 = 2) then bindO (P_s_l1Str c13.2.1 [(⟨#[]⟩ : ByteArray), (⟨#[65]⟩ : ByteArray)]) fun c37 => some ((c37.1, (d.2.1, (d.2.2.1, d.2.2.2))), c37.2.1, ())
      else some ((d.1, (d.2.1, (d.2.2.1, d.2.2.2))), c13.2.1, ())) = some (d', c', ()) ∧ DC d' ∧ Cur c' := by
    intro d c hd hc
    obtain ⟨k, c1, e1, hc1, _⟩ := l1Below_ok c 14 hc (by omega)
    obtain ⟨x, c2, e2, hc2, _⟩ := l1Int_ok c1 [0, 7] hc1 (by simp)
    obtain ⟨y, c3, e3, hc3, _⟩ := l1Int_ok c1 [(-1), (d.2.1.length : Int), (IntKind.i64.wrap ((d.2.1.length : Int) + 1))] hc1 (by simp)
    obtain ⟨s, c4, e4, hc4, hs⟩ := l1Str_ok c1 [(⟨#[]⟩ : ByteArray), (⟨#[65]⟩ : ByteArray)] hc1 (by simp)
    have hss : s.size ≤ 1048576 := by
      simp only [List.mem_cons, List.not_mem_nil, or_false] at hs
      rcases hs with rfl | rfl <;> decide
    simp only [e1, bindO]
    by_cases k0 : k = 0
    · rw [dec_true k0]
      simp only [e2, cond_true]
      exact ⟨_, _, rfl, hd, hc2⟩
    rw [dec_false k0]
    by_cases k1 : k = 1
    · rw [dec_true k1]
      simp only [e3, cond_true, cond_false]
      exact ⟨_, _, rfl, hd, hc3⟩
    rw [dec_false k1]
    by_cases k2 : k = 2
    · rw [dec_true k2]
      simp only [e4, cond_true, cond_false]
      exact ⟨_, _, rfl, ⟨hss, hd.2⟩, hc4⟩
    rw [dec_false k2]
    simp only [cond_false]
    exact ⟨_, _, rfl, hd, hc1⟩
  cases b with
  | true =>
    obtain ⟨k, c3, e3, hc3, _⟩ := l1Below_ok c2 5 hc2 (by omega)
    simp only [cond_true, e3]
    have hd' : DC (d.1, d.2.1, IntKind.i64.wrap (1 + k), d.2.2.2) := hd
    have key := key _ c3 hd' hc3
    simp only [bindO] at key
    simp only [pe] at key ⊢
    exact key
  | false =>
    simp only [cond_false]
    have key := key d c2 hd hc2
    simp only [bindO] at key
    simp only [pe] at key ⊢
    exact key

theorem drawHearResp_ok (a : List Int) (h : a.length ≤ 1048576) : ∃ d r, P_s_DrawHearResp_r99_0 a = some (d, r, ()) ∧ DC d := by
  obtain ⟨c, e, hc⟩ := l1New_ok a h
  obtain ⟨d, c1, e1, hd, hc1⟩ := l17Any_ok c hc
  obtain ⟨x, c2, e2, hc2, _⟩ := l1Int_ok c1 [200, 201, 204, 404, 409, 422, 507, 400, 99] hc1 (by simp)
  obtain ⟨y, c3, e3, hc3, _⟩ := l1Int_ok c2 [0, 5, 24, 48, 60, (-1), 100] hc2 (by simp)
  exact ⟨d, (x, y), by simp only [P_s_DrawHearResp_r99_0, B_s_DrawHearResp_r99_0, e, e1, e2, e3, bindO], hd⟩

theorem nextStep_in {a b : Int} (h : 1 ≤ a ∧ a ≤ 6) : nextStep a b = 0 ∨ (1 ≤ nextStep a b ∧ nextStep a b ≤ 6) := by
  unfold nextStep
  repeat' split
  all_goals omega

theorem hearResp_ok {c : Client} (r : Resp) (h : clientOkB c = true) : clientOkB (hearResp c r) = true := by
  have h0 := h
  unfold hearResp
  split
  · obtain ⟨h1, h2, h3, h4, h5⟩ := ok_off h
    have hid : idB c.1 = true := by
      simp only [clientOkB, Bool.and_eq_true] at h
      exact h.1.1.1
    unfold hear
    split
    · unfold far
      repeat' split
      all_goals (simp only [clientOkB, Bool.and_eq_true, decide_eq_true_eq, hid, true_and]; omega)
    · rename_i hne
      have := nextStep_in (a := c.2.2.1) (b := r.1) ⟨h2, h3⟩
      simp only [clientOkB, Bool.and_eq_true, decide_eq_true_eq, hid, true_and]
      omega
  · exact h

theorem i_ReqOk_eq (r : Req) (h : r.2.1.size ≤ maxLen) : P_i_ReqOk r = some (decide (1 ≤ r.1 ∧ r.1 ≤ 6) && idB r.2.1 && decide (0 ≤ r.2.2 ∧ r.2.2 ≤ (if r.1 = 1 then 1000000000 else if r.1 = 3 then 1000000000 else if r.1 = 4 then 4294967295 else 0)), ()) := by
  simp only [P_i_ReqOk, B_i_ReqOk, P_i_numberField, B_i_numberField, inRange_eq, idOk_eq _ h]
  by_cases h1 : r.1 = 1
  · rw [dec_true h1]
    simp only [cond_true, bindO, if_pos h1]
    cases decide (1 ≤ r.1 ∧ r.1 ≤ 6) <;> cases idB r.2.1 <;> simp
  rw [dec_false h1, if_neg h1]
  by_cases h3 : r.1 = 3
  · rw [dec_true h3]
    simp only [cond_true, cond_false, bindO, if_pos h3]
    cases decide (1 ≤ r.1 ∧ r.1 ≤ 6) <;> cases idB r.2.1 <;> simp
  rw [dec_false h3, if_neg h3]
  by_cases h4 : r.1 = 4
  · rw [dec_true h4]
    simp only [cond_true, cond_false, bindO, if_pos h4]
    cases decide (1 ≤ r.1 ∧ r.1 ≤ 6) <;> cases idB r.2.1 <;> simp
  rw [dec_false h4, if_neg h4]
  simp only [cond_true, cond_false, bindO]
  cases decide (1 ≤ r.1 ∧ r.1 ≤ 6) <;> cases idB r.2.1 <;> simp

theorem nextReq_ok {c : Client} (h : clientOkB c = true) (ho : overB c = false) (hb : Byt c.2.1) (hs : c.1.size ≤ maxLen) :
    ∃ op n bs, nextReq c = ((op, c.1, n), bs, true, ()) ∧ P_i_ReqOk (op, c.1, n) = some (true, ()) ∧ (op = 3 → n = c.2.2.2 ∧ bs.length ≤ 24 ∧ bs = (c.2.1.take (c.2.2.2.toNat + bs.length)).drop c.2.2.2.toNat ∧ c.2.2.2.toNat + bs.length ≤ c.2.1.length) := by
  obtain ⟨h1, h2, h3, h4, h5⟩ := ok_off h
  have hid : idB c.1 = true := by
    simp only [clientOkB, Bool.and_eq_true] at h
    exact h.1.1.1
  simp only [overB, Bool.or_eq_false_iff, decide_eq_false_iff_not] at ho
  have hr : ∀ op n, (1 ≤ op ∧ op ≤ 6) → (0 ≤ n ∧ n ≤ (if op = 1 then 1000000000 else if op = 3 then 1000000000 else if op = 4 then 4294967295 else 0)) → P_i_ReqOk (op, c.1, n) = some (true, ()) := by
    intro op n g1 g2
    rw [i_ReqOk_eq (op, c.1, n) hs, dec_true g1, dec_true g2, hid]
    rfl
  unfold nextReq
  rw [if_neg (by rw [h]; decide)]
  by_cases e1 : c.2.2.1 = 1
  · rw [if_pos e1]
    exact ⟨_, _, _, rfl, hr _ _ (by omega) (by simp; omega), fun e => by omega⟩
  rw [if_neg e1]
  by_cases e2 : c.2.2.1 = 2
  · rw [if_pos e2]
    exact ⟨_, _, _, rfl, hr _ _ (by omega) (by simp), fun e => by omega⟩
  rw [if_neg e2]
  by_cases e3 : c.2.2.1 = 3
  · rw [if_pos e3]
    refine ⟨_, _, _, rfl, hr _ _ (by omega) (by simp; omega), fun _ => ?_⟩
    have hl : ((c.2.1.take (min (c.2.2.2.toNat + 24) c.2.1.length)).drop c.2.2.2.toNat).length = min (c.2.2.2.toNat + 24) c.2.1.length - c.2.2.2.toNat := by simp
    refine ⟨rfl, by omega, ?_, by omega⟩
    rw [hl]
    congr 2
    omega
  rw [if_neg e3, if_pos (show c.2.2.1 = 4 by omega)]
  refine ⟨_, _, _, rfl, hr _ _ (by omega) ?_, fun e => by omega⟩
  have hxor : crcL c.2.1 ^^^ 4294967295 < 2 ^ 32 := Nat.xor_lt_two_pow (by have := crcL_lt hb; omega) (by omega)
  simp
  omega

theorem fnClients (a : List Int) (h : a.length ≤ maxLen) : P_w_FnClients a = some (true, ()) := by
  simp only [P_w_FnClients, B_w_FnClients, P_w_big, B_w_big, bindO]
  by_cases h3 : (a.length : Int) > 1048576
  · rw [dec_true h3]; rfl
  rw [dec_false h3]
  obtain ⟨c, r, e, hd⟩ := drawHearResp_ok a (by omega)
  obtain ⟨d1, d2, d3⟩ := hd
  have hs : c.1.size ≤ maxLen := by simp only [maxLen]; omega
  obtain ⟨g1, g2⟩ := hearResp_same c r
  have hs' : (hearResp c r).1.size ≤ maxLen := by rw [g1]; exact hs
  simp only [cond_false, e, i_HearResp_eq c r hs (by omega), s_HearResp_eq c r hs (by omega), g1, g2, sameBytes_refl c.2.1 (by simp only [maxLen]; omega), decide_true, Bool.not_true, beq_self_eq_true, bindS,
    i_NextReq_eq c hs d3, s_ClientOk_eq c hs, i_ClientOk_eq c hs, i_CutOff_ok c hs (by omega), i_ClientOk_eq _ hs']
  cases hk : clientOkB c with
  | false => simp [nextReq, hk, noReq]
  | true =>
    have hh := hearResp_ok r hk
    simp only [hh, Bool.not_true, cond_false]
    have hover : (bif decide (c.2.2.1 = 5) then some (true, ()) else some (decide (c.2.2.1 = 6), ())) = some (overB c, ()) := by
      unfold overB
      cases decide (c.2.2.1 = 5) <;> simp
    rw [hover]
    simp only
    cases ho : overB c with
    | true =>
      have hn : nextReq c = noReq := by
        simp only [overB, Bool.or_eq_true, decide_eq_true_eq] at ho
        unfold nextReq
        rw [if_neg (by rw [hk]; decide), if_neg (by omega), if_neg (by omega), if_neg (by omega), if_neg (by omega)]
      simp [hn, noReq, cutOffC, hk, ho]
    | false =>
      obtain ⟨op, n, bs, en, er, hop⟩ := nextReq_ok hk ho d3 hs
      simp only [en, er, cutOffC, hk, ho]
      simp only [Bool.not_false, Bool.not_true, Bool.and_self, if_true, cond_true, cond_false, decide_true, beq_self_eq_true, show (true == false) = false from rfl]
      by_cases h3 : op = 3
      · obtain ⟨o1, o2, o3, o4⟩ := hop h3
        obtain ⟨_, _, _, q4, q5⟩ := ok_off hk
        rw [dec_true h3, dec_true o1, dec_true (by omega), dec_true q4, w64 (by omega) (by omega), dec_true (by omega), dec_true (by omega)]
        simp only [Bool.not_true, cond_true, cond_false]
        rw [show (c.2.2.2 + (bs.length : Int)).toNat = c.2.2.2.toNat + bs.length by omega, ← o3, sameBytes_refl bs (by simp only [maxLen]; omega)]
      · rw [dec_false h3]
        rfl
end Go.Proofs.Ytiplpehengcinaa.Ev
