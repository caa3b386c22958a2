/- What the plain functions of the program and of the reference answer: laws of plain data. -/
import Derived.Test.YtpdcljonclhhpaaGreatXTopa

set_option linter.unusedVariables false
set_option linter.unusedSimpArgs false
namespace Go.Proofs.YtpdcljonclhhpaaGreat.Ev
































theorem scanF_stop (last : Int) (i : Nat) (l : List ByteArray) (h : ∀ s, l.head? = some s → goesOn last i s = false) : scanF last i l = [] := by
  cases l with
  | nil => rfl
  | cons s l => simp only [scanF, h s rfl, Bool.false_eq_true, if_false]
theorem scanF_cons (last : Int) (i : Nat) (s : ByteArray) (l : List ByteArray) : scanF last i (s :: l) = bif goesOn last i s then (getRec s).1 :: scanF (getRec s).1.1 (i + 1) l else [] := by
  simp only [scanF]
  cases goesOn last i s <;> rfl
set_option maxRecDepth 100000 in
theorem s_scan_eq (d : TDisk) (h : Secs d.1) : P_s_ScanRecs d = some (scanL d.1, ()) := by
  have hl := h.1
  obtain ⟨z, e, hz⟩ := loopO_ind (L_s_ScanRecs_0 P_s_GetRec d) (fun l => ((d.1.length : Int) - l.2.1).toNat) (fun l => ∃ i : Nat, l.2.1 = (i : Int) ∧ i ≤ d.1.length ∧ List.length l.2.2.1 = i ∧ scanL d.1 = l.2.2.1 ++ scanF l.1 i (d.1.drop i))
    (fun z => z = (scanL d.1, ())) (fun l hl => by
      obtain ⟨i, h0, h1, h2, h3⟩ := hl
      simp only [L_s_ScanRecs_0]
      by_cases hi : i < d.1.length
      · rw [h0, dec_true (show (i : Int) < (d.1.length : Int) by omega), dec_true (show (0 : Int) ≤ (i : Int) by omega)]
        simp only [cond_true]
        rw [s_GetRec_eq _ (secs_at h hi)]
        simp only [bindO]
        rw [rd_str hi]
        have hdrop : d.1.drop i = d.1[i] :: d.1.drop (i + 1) := List.drop_eq_getElem_cons hi
        rw [hdrop] at h3
        rw [scanF_cons] at h3
        simp only [goesOn] at h3
        obtain ⟨g, hg⟩ : ∃ g, getRec d.1[i] = g := ⟨_, rfl⟩
        rw [hg] at h3 ⊢
        cases hk : g.2.1 with
        | false =>
          rw [hk] at h3
          simp only [Bool.false_and, cond_false, List.append_nil] at h3
          exact .inr ⟨_, rfl, by rw [h3]⟩
        | true =>
          rw [hk] at h3
          simp only [Bool.true_and] at h3
          simp only [Bool.not_true, cond_false]
          by_cases e1 : g.1.2.1 = (i : Int)
          · rw [dec_true e1] at h3 ⊢
            by_cases e2 : g.1.1 < l.1
            · rw [dec_true e2] at h3 ⊢
              simp only [Bool.not_true, Bool.and_false, cond_false, List.append_nil] at h3
              exact .inr ⟨_, rfl, by rw [h3]⟩
            · rw [dec_false e2] at h3 ⊢
              simp only [Bool.not_false, Bool.and_true, cond_true, Bool.true_and] at h3
              simp only [Bool.not_true, cond_false]
              rw [dec_true (by simp; omega), dec_true (by simp; omega), w64 (by omega) (by omega)]
              refine .inl ⟨_, rfl, ⟨i + 1, by simp only; omega, by omega, by simp; omega, ?_⟩, by simp only; omega⟩
              simp only
              rw [h3, List.append_assoc]
              rfl
          · rw [dec_false e1] at h3 ⊢
            simp only [Bool.false_and, cond_false, List.append_nil] at h3
            exact .inr ⟨_, rfl, by rw [h3]⟩
      · rw [h0, dec_false (show ¬ (i : Int) < (d.1.length : Int) by omega)]
        rw [List.drop_eq_nil_of_le (by omega)] at h3
        simp only [scanF, List.append_nil] at h3
        exact .inr ⟨_, rfl, by rw [h3]⟩) (0, 0, [], ()) ⟨0, rfl, by omega, rfl, by simp [scanL]⟩
  have e' : P_s_ScanRecs d = some z := e
  rw [e', hz]
/-- A right store. -/
structure GoodS (st : TStore) : Prop where
  dk : diskB st.1 = true
  ep : 0 ≤ st.2.1 ∧ st.2.1 ≤ 10000
  up : foldAll [] (scanL st.1.1) = some st.2.2.2
  nx : st.2.2.1 = (List.length (scanL st.1.1) : Int)
  le : lastE 0 (scanL st.1.1) ≤ st.2.1
  tl : ((st.1.1.drop (scanL st.1.1).length).all fun s => !newer st.2.1 s) = true
theorem diskB_S {d : TDisk} (h : diskB d = true) : DiskS d ∧ d.1.length = d.2.length ∧ d.1.length ≤ 200 ∧ (∀ s ∈ d.1, s.size ≤ 64) ∧ ∀ s ∈ d.2, s.size ≤ 64 := by
  simp only [diskB, Bool.and_eq_true] at h
  obtain ⟨h1, h2⟩ := h
  have h1 := of_decide_eq_true h1
  have k1 : ∀ s ∈ d.1, s.size ≤ 64 := fun s hs => by
    obtain ⟨i, hi, rfl⟩ := List.getElem_of_mem hs
    have := List.all_eq_true.1 h2 i (List.mem_range.2 hi)
    simp only [Bool.and_eq_true, Bool.not_eq_true', decide_eq_false_iff_not] at this
    have h3 := this.1
    rw [rd_str hi] at h3
    omega
  have k2 : ∀ s ∈ d.2, s.size ≤ 64 := fun s hs => by
    obtain ⟨i, hi, rfl⟩ := List.getElem_of_mem hs
    have := List.all_eq_true.1 h2 i (List.mem_range.2 (by omega))
    simp only [Bool.and_eq_true, Bool.not_eq_true', decide_eq_false_iff_not] at this
    have h3 := this.2
    rw [rd_str hi] at h3
    omega
  exact ⟨⟨⟨by omega, fun s hs => by have := k1 s hs; omega⟩, by omega, fun s hs => by have := k2 s hs; omega⟩, h1.1, h1.2, k1, k2⟩
theorem diskB_of {d : TDisk} (h1 : d.1.length = d.2.length) (h2 : d.1.length ≤ 200) (h3 : ∀ s ∈ d.1, s.size ≤ 64) (h4 : ∀ s ∈ d.2, s.size ≤ 64) : diskB d = true := by
  simp only [diskB, Bool.and_eq_true]
  refine ⟨decide_eq_true ⟨h1, h2⟩, List.all_eq_true.2 fun i hi => ?_⟩
  have hi := List.mem_range.1 hi
  rw [rd_str hi, rd_str (show i < d.2.length by omega)]
  have k1 := h3 _ (List.getElem_mem hi)
  have k2 := h4 _ (List.getElem_mem (show i < d.2.length by omega))
  rw [dec_false (by omega), dec_false (by omega)]
  rfl
theorem lastE_last (l : List TRec) (h : 0 < l.length) (e : Int) : (rd kRec l ((l.length : Int) - 1)).1 = lastE e l := by
  induction l generalizing e with
  | nil => simp at h
  | cons r l ih =>
    cases l with
    | nil => rfl
    | cons r' l =>
      have h2 := ih (by simp) r.1
      simp only [lastE] at h2 ⊢
      rw [← h2]
      have e1 : ((r :: r' :: l).length : Int) - 1 = (((l.length + 1) : Nat) : Int) := by simp only [List.length_cons]; omega
      have e2 : ((r' :: l).length : Int) - 1 = ((l.length : Nat) : Int) := by simp only [List.length_cons]; omega
      rw [e1, e2, rd_nat (k := kRec) (xs := r :: r' :: l) (by simp), rd_nat (k := kRec) (xs := r' :: l) (by simp)]
      rfl
/-- A store is right just if it is GoodS (its bytes being bytes). -/
theorem storeOk_iff (st : TStore) (h : Secs st.1.1) (hb : ∀ u ∈ st.2.2.2, Byt u.2.2.1) : ∃ b, P_s_StoreOk st = some (b, ()) ∧ P_i_StoreOk st = some (b, ()) ∧ (b = true ↔ GoodS st) := by
  obtain ⟨b, hs, hi, _⟩ := storeOk_eq st h
  refine ⟨b, hs, hi, ?_⟩
  have hl := h.1
  have hrg := scanF_good 0 0 st.1.1
  have hll := scanF_len 0 0 st.1.1
  have hfs := s_FoldRecs_eq (scanL st.1.1) (by simp only [maxLen, scanL]; omega) hrg
  simp only [P_s_StoreOk, B_s_StoreOk, s_DiskOk_eq, s_scan_eq st.1 h, hfs, l1In_eq, bindO] at hs
  have hsc : scanF 0 0 st.1.1 = scanL st.1.1 := rfl
  rw [hsc] at hrg hll
  cases hbd : diskB st.1 with
  | false =>
    rw [hbd] at hs
    have : b = false := by
      simp only [Bool.not_false, cond_true] at hs
      first | (injection hs with hs; injection hs with hs; exact hs.symm) | (simp [bindS] at hs; exact hs.symm)
    rw [this]
    exact ⟨fun e => by (cases e), fun g => by rw [g.dk] at hbd; cases hbd⟩
  | true =>
    rw [hbd] at hs
    simp only [Bool.not_true, cond_false] at hs
    by_cases he : 0 ≤ st.2.1 ∧ st.2.1 ≤ 10000
    · rw [dec_true he] at hs
      simp only [Bool.not_true, cond_false, bindS] at hs
      unfold foldRecs at hs
      cases hf : foldAll [] (scanL st.1.1) with
      | none =>
        rw [hf] at hs
        have : b = false := by
          first | (injection hs with hs; injection hs with hs; exact hs.symm) | (simp at hs; exact hs.symm)
        rw [this]
        exact ⟨fun e => by (cases e), fun g => by rw [g.up] at hf; cases hf⟩
      | some us =>
        have hu := foldAll_ups ups_nil hrg hf
        have hul := hu.2.1
        rw [hf] at hs
        simp only at hs
        rw [s_same_eq _ _ (show us.length ≤ maxLen by simp only [maxLen]; omega)] at hs
        simp only [Bool.not_true, cond_false] at hs
        cases hsm : sameUpsB us st.2.2.2 with
        | false =>
          rw [hsm] at hs
          have : b = false := by
            first | (injection hs with hs; injection hs with hs; exact hs.symm) | (simp at hs; exact hs.symm)
          rw [this]
          refine ⟨fun e => by (cases e), fun g => ?_⟩
          have := g.up
          rw [hf] at this
          injection this with this
          rw [this, sameUpsB_refl] at hsm
          cases hsm
        | true =>
          have heq := sameUps_eq (fun u hu' => (hu.2.2 u hu').2.2.2) hb hsm
          rw [hsm] at hs
          simp only [Bool.not_true, cond_false] at hs
          by_cases hn : st.2.2.1 = (List.length (scanL st.1.1) : Int)
          · rw [dec_true hn] at hs
            simp only [Bool.not_true, cond_false] at hs
            have htail := s_tail_eq st h (scanL st.1.1).length hll
            rw [hn] at hs
            rw [htail] at hs
            by_cases hl0 : (List.length (scanL st.1.1) : Int) > 0
            · rw [dec_true hl0, w64 (n := (List.length (scanL st.1.1) : Int) - 1) (by omega) (by omega), dec_true (show (0 : Int) ≤ (List.length (scanL st.1.1) : Int) - 1 by omega), dec_true (show (List.length (scanL st.1.1) : Int) - 1 < (List.length (scanL st.1.1) : Int) by omega), lastE_last (scanL st.1.1) (by omega) 0] at hs
              simp only [cond_true] at hs
              by_cases hle : lastE 0 (scanL st.1.1) > st.2.1
              · rw [dec_true hle] at hs
                have : b = false := by
                  first | (injection hs with hs; injection hs with hs; exact hs.symm) | (simp at hs; exact hs.symm)
                rw [this]
                exact ⟨fun e => by (cases e), fun g => by have := g.le; omega⟩
              · rw [dec_false hle] at hs
                simp only [cond_false] at hs
                have : b = ((st.1.1.drop (scanL st.1.1).length).all fun s => !newer st.2.1 s) := by
                  first | (injection hs with hs; injection hs with hs; exact hs.symm) | (simp at hs; exact hs.symm)
                rw [this]
                exact ⟨fun e => ⟨hbd, he, by rw [hf, heq], hn, by omega, e⟩, fun g => g.tl⟩
            · rw [dec_false hl0] at hs
              simp only [cond_false] at hs
              have : b = ((st.1.1.drop (scanL st.1.1).length).all fun s => !newer st.2.1 s) := by
                first | (injection hs with hs; injection hs with hs; exact hs.symm) | (simp at hs; exact hs.symm)
              rw [this]
              have hnil : scanL st.1.1 = [] := List.length_eq_zero_iff.1 (by omega)
              exact ⟨fun e => ⟨hbd, he, by rw [hf, heq], hn, by rw [hnil]; exact he.1, e⟩, fun g => g.tl⟩
          · rw [dec_false hn] at hs
            have : b = false := by
              first | (injection hs with hs; injection hs with hs; exact hs.symm) | (simp at hs; exact hs.symm)
            rw [this]
            exact ⟨fun e => by (cases e), fun g => absurd g.nx hn⟩
    · rw [dec_false he] at hs
      have : b = false := by
        first | (injection hs with hs; injection hs with hs; exact hs.symm) | (simp [bindS] at hs; exact hs.symm)
      rw [this]
      exact ⟨fun e => by (cases e), fun g => absurd g.ep he⟩
theorem good_rt {st : TStore} (h : GoodS st) (hr : Ups st.2.2.2) : Rt st := by
  obtain ⟨k1, k2, k3, k4, k5⟩ := diskB_S h.dk
  have := scanF_len 0 0 st.1.1
  have hn := h.nx
  exact ⟨⟨h.ep.1, h.ep.2, k2, k3, by simp only [scanL] at hn; omega, st.2.2.2, hr, sameUpsB_refl _⟩, hr, k1⟩
theorem good_ups {st : TStore} (h : GoodS st) : Ups st.2.2.2 := foldAll_ups ups_nil (scanF_good 0 0 st.1.1) h.up
theorem foldAll_app : ∀ (l l' : List TRec) (us : List TUp), foldAll us (l ++ l') = (foldAll us l).bind fun us' => foldAll us' l'
  | [], l', us => rfl
  | r :: l, l', us => by
    simp only [List.cons_append, foldAll]
    cases foldOne us r with
    | none => rfl
    | some us' => exact foldAll_app l l' us'
theorem lastE_app (l : List TRec) (r : TRec) (e : Int) : lastE e (l ++ [r]) = r.1 := by
  induction l generalizing e with
  | nil => rfl
  | cons x l ih => exact ih x.1
theorem good_wrote {st : TStore} (h : GoodS st) {r : TRec} (hr : RecG r) (h1 : r.1 = st.2.1) (h2 : r.2.1 = st.2.2.1) (hlt : st.2.2.1 < (st.1.1.length : Int)) {us : List TUp} (hf : foldOne st.2.2.2 r = some us) :
    GoodS (wrote st r us) ∧ scanL (wrote st r us).1.1 = scanL st.1.1 ++ [r] := by
  obtain ⟨k1, k2, k3, k4, k5⟩ := diskB_S h.dk
  have hn := h.nx
  generalize hL : scanL st.1.1 = L at *
  have hll : L.length ≤ st.1.1.length := by rw [← hL]; exact scanF_len 0 0 st.1.1
  have hlt' : L.length < st.1.1.length := by omega
  have hto : st.2.2.1.toNat = L.length := by omega
  have hset : st.1.1.set L.length (putRec r) = st.1.1.take L.length ++ putRec r :: st.1.1.drop (L.length + 1) := by
    rw [List.set_eq_take_append_cons_drop, if_pos hlt']
  have htake : scanF 0 0 (st.1.1.take L.length) = L := by
    have := scanF_take 0 0 st.1.1
    rw [show scanF 0 0 st.1.1 = L from hL] at this
    exact this
  have hgo : goesOn (lastE 0 L) L.length (putRec r) = true := by
    simp only [goesOn, getRec_put hr, Bool.true_and]
    rw [h1, h2, dec_true (by omega), dec_false (by have := h.le; rw [hL] at this; omega)]
    rfl
  have htl := h.tl
  rw [hL] at htl
  have hscan : scanL (wrote st r us).1.1 = L ++ [r] := by
    show scanF 0 0 (st.1.1.set st.2.2.1.toNat (putRec r)) = _
    rw [hto, hset, scanF_app _ _ _ _ (by rw [htake, List.length_take]; omega), htake]
    congr 1
    have hle : (st.1.1.take L.length).length = L.length := by rw [List.length_take]; omega
    simp only [scanF, hle, Nat.zero_add, hgo, if_true, getRec_put hr]
    congr 1
    refine scanF_stop _ _ _ fun s hs => ?_
    have hmem : s ∈ st.1.1.drop (L.length + 1) := List.mem_of_mem_head? hs
    have hmem2 : s ∈ st.1.1.drop L.length := by
      rw [List.drop_eq_getElem_cons hlt']
      exact List.mem_cons_of_mem _ hmem
    have := List.all_eq_true.1 htl s hmem2
    simp only [newer, Bool.not_eq_true', Bool.and_eq_false_iff, decide_eq_false_iff_not] at this
    simp only [goesOn, h1]
    rcases this with h3 | h3
    · rw [h3]; rfl
    · rw [dec_true (show (getRec s).1.1 < st.2.1 by omega)]
      simp
  have hlen : (L ++ [r]).length = L.length + 1 := by simp
  refine ⟨⟨?_, h.ep, ?_, ?_, ?_, ?_⟩, hscan⟩
  · refine diskB_of ?_ ?_ (fun s hs => ?_) k5
    · show (st.1.1.set _ _).length = _; rw [List.length_set]; exact k2
    · show (st.1.1.set _ _).length ≤ _; rw [List.length_set]; exact k3
    · rcases List.mem_or_eq_of_mem_set hs with hs | rfl
      · exact k4 s hs
      · exact putRec_64 hr.1
  · have hup := h.up
    rw [hL] at hup
    rw [hscan, foldAll_app, hup]
    show foldAll st.2.2.2 [r] = some us
    simp only [foldAll, hf]
  · rw [hscan, hlen]
    show st.2.2.1 + 1 = _
    omega
  · rw [hscan, lastE_app, h1]
    exact Int.le_refl _
  · rw [hscan, hlen]
    show ((st.1.1.set st.2.2.1.toNat (putRec r)).drop (L.length + 1)).all _ = true
    rw [hto, List.drop_set_of_lt (by omega)]
    rw [List.drop_eq_getElem_cons hlt', List.all_cons, Bool.and_eq_true] at htl
    exact htl.2

/-- Sectors behind a crash: of each either what was written, or what was sure. -/
def mixL (now sure : List ByteArray) (k : List Bool) : List ByteArray := (List.range now.length).map fun i => bif k.getD i false then now.getD i ⟨#[]⟩ else sure.getD i ⟨#[]⟩
def fallF (d : TDisk) (k : List Bool) : TDisk := (mixL d.1 d.2 k, mixL d.1 d.2 k)
theorem mixL_len (now sure : List ByteArray) (k : List Bool) : (mixL now sure k).length = now.length := by simp [mixL]
theorem mixL_get {now sure : List ByteArray} {k : List Bool} (h : now.length = sure.length) {i : Nat} (hi : i < now.length) : (mixL now sure k)[i]? = if k.getD i false = true then now[i]? else sure[i]? := by
  simp only [mixL, List.getElem?_map, List.getElem?_range hi, Option.map_some]
  rw [List.getElem?_eq_getElem hi, List.getElem?_eq_getElem (show i < sure.length by omega)]
  have e1 : now.getD i ⟨#[]⟩ = now[i] := by simp [List.getD, hi]
  have e2 : sure.getD i ⟨#[]⟩ = sure[i]'(by omega) := by simp [List.getD, show i < sure.length by omega]
  rw [e1, e2]
  by_cases hb : k.getD i false = true
  · rw [if_pos hb, hb]; rfl
  · rw [if_neg hb, Bool.eq_false_iff.2 hb]; rfl
def segL {α : Type} (l x : List α) (i : Nat) : List α := l.take i ++ x.drop i
theorem segL_len {α : Type} {l x : List α} (h : l.length = x.length) (i : Nat) : (segL l x i).length = x.length := by simp [segL]; omega
theorem segL_set {α : Type} {l x : List α} (h : l.length = x.length) {i : Nat} (hi : i < l.length) : (segL l x i).set i l[i] = segL l x (i + 1) := by
  have hl : (l.take i).length = i := by rw [List.length_take]; omega
  unfold segL
  rw [List.drop_eq_getElem_cons (show i < x.length by omega)]
  have e : (l.take i ++ x[i]'(by omega) :: x.drop (i + 1)).set i l[i] = l.take i ++ (x[i]'(by omega) :: x.drop (i + 1)).set (i - (l.take i).length) l[i] := List.set_append_right _ _ (by omega)
  rw [e, hl, Nat.sub_self, List.set_cons_zero, List.take_succ_eq_append_getElem hi, List.append_assoc]
  rfl
theorem segL_same {α : Type} {l x : List α} (h : l.length = x.length) {i : Nat} (hi : i < l.length) (he : l[i]? = x[i]?) : segL l x i = segL l x (i + 1) := by
  unfold segL
  rw [List.drop_eq_getElem_cons (show i < x.length by omega), List.take_succ_eq_append_getElem hi, List.append_assoc]
  rw [List.getElem?_eq_getElem hi, List.getElem?_eq_getElem (show i < x.length by omega)] at he
  injection he with he
  rw [he]
  rfl
theorem segL_get {α : Type} {l x : List α} (h : l.length = x.length) {i : Nat} (hi : i < x.length) : (segL l x i)[i]? = x[i]? := by
  unfold segL
  rw [List.getElem?_append_right (by rw [List.length_take]; omega), List.length_take, Nat.min_eq_left (by omega), Nat.sub_self, List.getElem?_drop, Nat.add_zero]
theorem s_fall_eq (d : TDisk) (k : List Bool) (hd : diskB d = true) : P_s_FallDisk d k = some (fallF d k, ()) := by
  obtain ⟨hS, hlen, h200, _, _⟩ := diskB_S hd
  have hml := mixL_len d.1 d.2 k
  simp only [P_s_FallDisk, B_s_FallDisk, s_copyDisk_eq d hS, s_DiskOk_eq, hd, bO, Bool.not_true, cond_false]
  have key := loopO_count (L_s_FallDisk_0 k) (fun i => ((i : Int), segL (mixL d.1 d.2 k) d.1 i, segL (mixL d.1 d.2 k) d.2 i, ())) d.1.length (fallF d k, ()) (fun i hi => ?_) ?_
  · exact key
  · have l1 := segL_len (l := mixL d.1 d.2 k) (x := d.1) hml i
    have l2 := segL_len (l := mixL d.1 d.2 k) (x := d.2) (by omega) i
    have g1 := segL_get (l := mixL d.1 d.2 k) (x := d.1) hml hi
    have g2 := segL_get (l := mixL d.1 d.2 k) (x := d.2) (by omega) (show i < d.2.length by omega)
    have hm := mixL_get (k := k) hlen hi
    have hmi : i < (mixL d.1 d.2 k).length := by omega
    simp only [L_s_FallDisk_0, l1]
    rw [dec_true (show (i : Int) < (d.1.length : Int) by omega)]
    have hb : (bif decide ((i : Int) < (k.length : Int)) then bif decide (0 ≤ (i : Int)) then bif decide ((i : Int) < (k.length : Int)) then (some ((rd .bool k (i : Int)), ()) : Option (Bool × Unit)) else none else none else some (false, ())) = some (k.getD i false, ()) := by
      by_cases hik : i < k.length
      · rw [dec_true (show (i : Int) < (k.length : Int) by omega), dec_true (show (0 : Int) ≤ (i : Int) by omega)]
        simp only [cond_true]
        rw [rd_nat (k := .bool) hik]
        simp [List.getD, hik]
      · rw [dec_false (show ¬ (i : Int) < (k.length : Int) by omega)]
        simp [List.getD, List.getElem?_eq_none (show k.length ≤ i by omega)]
    rw [hb]
    simp only [cond_true, bO, l2, hlen]
    rw [dec_true (show (0 : Int) ≤ (i : Int) by omega), dec_true (show (i : Int) < (d.2.length : Int) by omega), w64 (by omega) (by omega)]
    have r1 : rd .str (segL (mixL d.1 d.2 k) d.1 i) (i : Int) = d.1[i] := by
      rw [rd_str (by omega)]
      have := g1
      rw [List.getElem?_eq_getElem (by omega), List.getElem?_eq_getElem hi] at this
      injection this
    have r2 : rd .str (segL (mixL d.1 d.2 k) d.2 i) (i : Int) = d.2[i] := by
      rw [rd_str (by omega)]
      have := g2
      rw [List.getElem?_eq_getElem (by omega), List.getElem?_eq_getElem (show i < d.2.length by omega)] at this
      injection this
    rw [r1, r2, Int.toNat_natCast]
    rw [List.getElem?_eq_getElem hmi, List.getElem?_eq_getElem hi, List.getElem?_eq_getElem (show i < d.2.length by omega)] at hm
    cases hkb : k.getD i false with
    | true =>
      rw [hkb, if_pos rfl] at hm
      injection hm with hm
      simp only [cond_true]
      rw [← hm, segL_set (by omega) hmi, segL_same (l := mixL d.1 d.2 k) (x := d.1) hml hmi (by rw [List.getElem?_eq_getElem hmi, List.getElem?_eq_getElem hi, hm])]
      rfl
    | false =>
      rw [hkb, if_neg (by simp)] at hm
      injection hm with hm
      simp only [cond_true, cond_false]
      rw [← hm, segL_set hml hmi, segL_same (l := mixL d.1 d.2 k) (x := d.2) (by omega) hmi (by rw [List.getElem?_eq_getElem hmi, List.getElem?_eq_getElem (show i < d.2.length by omega), hm])]
      rfl
  · have e1 : segL (mixL d.1 d.2 k) d.1 d.1.length = mixL d.1 d.2 k := by unfold segL; rw [List.drop_length, List.append_nil, List.take_of_length_le (by omega)]
    have e2 : segL (mixL d.1 d.2 k) d.2 d.1.length = mixL d.1 d.2 k := by unfold segL; rw [hlen, List.drop_length, List.append_nil, List.take_of_length_le (by omega)]
    simp only [L_s_FallDisk_0, e1, e2]
    rw [dec_false (by omega)]
    rfl
theorem scanF_take' (last : Int) (i : Nat) (l : List ByteArray) (j : Nat) : scanF last i (l.take j) = (scanF last i l).take j := by
  induction l generalizing last i j with
  | nil => simp [scanF]
  | cons s l ih =>
    cases j with
    | zero => simp [scanF]
    | succ j =>
      simp only [List.take_succ_cons, scanF_cons, ih]
      cases goesOn last i s <;> simp
theorem scanF_get (last : Int) (j : Nat) (l : List ByteArray) (i : Nat) (hi : i < (scanF last j l).length) : ∃ s, l[i]? = some s ∧ getRec s = ((scanF last j l)[i], true, ()) := by
  induction l generalizing last j i with
  | nil => simp [scanF] at hi
  | cons s l ih =>
    have e := scanF_cons last j s l
    cases hg : goesOn last j s with
    | false => rw [hg] at e; rw [e] at hi; simp at hi
    | true =>
      rw [hg] at e
      simp only [cond_true] at e
      cases i with
      | zero =>
        refine ⟨s, rfl, ?_⟩
        simp only [goesOn, Bool.and_eq_true] at hg
        have h0 : (scanF last j (s :: l))[0] = (getRec s).1 := by simp only [e]; rfl
        rw [h0]
        have := hg.1.1
        generalize getRec s = g at this
        obtain ⟨a, b, u⟩ := g
        simp only at this
        rw [this]
      | succ i =>
        have hi2 : i < (scanF (getRec s).1.1 (j + 1) l).length := by rw [e] at hi; simpa using hi
        obtain ⟨s', h1, h2⟩ := ih _ _ i hi2
        refine ⟨s', h1, ?_⟩
        rw [h2]
        congr 1
        simp only [e, List.getElem_cons_succ]
/-- Sectors that begin as others do, up to their records. -/
theorem scan_split {now x : List ByteArray} {j : Nat} (hj : j ≤ (scanL now).length) (hx : x.take j = now.take j) (hlen : x.length = now.length) : scanL x = (scanL now).take j ++ scanF (lastE 0 ((scanL now).take j)) j (x.drop j) := by
  have hll := scanF_len 0 0 now
  have hs : scanF 0 0 (x.take j) = (scanL now).take j := by rw [hx, scanF_take']; rfl
  have h1 : (scanF 0 0 (x.take j)).length = (x.take j).length := by
    rw [hs, List.length_take, List.length_take]
    simp only [scanL] at hj ⊢
    omega
  have := scanF_app 0 0 (x.take j) (x.drop j) h1
  rw [List.take_append_drop, hs] at this
  have hj2 : (x.take j).length = j := by rw [List.length_take]; simp only [scanL] at hj; omega
  rw [hj2, Nat.zero_add] at this
  exact this
theorem scan_end {now : List ByteArray} {j : Nat} (hj : (scanL now).length = j) : scanF (lastE 0 (scanL now)) j (now.drop j) = [] := by
  have h := scan_split (now := now) (x := now) (j := j) (by omega) rfl rfl
  rw [← hj, List.take_length] at h
  rw [← hj]
  have h2 : scanL now ++ [] = scanL now ++ scanF (lastE 0 (scanL now)) (scanL now).length (now.drop (scanL now).length) := by rw [List.append_nil]; exact h
  exact (List.append_cancel_left h2).symm
theorem good_ep {st : TStore} (h : GoodS st) : ∀ s ∈ st.1.1, (getRec s).2.1 = true → (getRec s).1.1 ≤ st.2.1 := by
  intro s hs hr
  obtain ⟨i, hi, rfl⟩ := List.getElem_of_mem hs
  by_cases hl : i < (scanL st.1.1).length
  · obtain ⟨s', h1, h2⟩ := scanF_get 0 0 st.1.1 i hl
    rw [List.getElem?_eq_getElem hi] at h1
    injection h1 with h1
    rw [h1, h2]
    have := (lastE_ge 0 0 st.1.1).2 _ (List.getElem_mem hl)
    exact Int.le_trans this h.le
  · have hm : st.1.1[i] ∈ st.1.1.drop (scanL st.1.1).length := by
      rw [List.mem_iff_getElem]
      refine ⟨i - (scanL st.1.1).length, by rw [List.length_drop]; omega, ?_⟩
      rw [List.getElem_drop]
      congr 1
      omega
    have := List.all_eq_true.1 h.tl _ hm
    simp only [newer, hr, Bool.true_and, Bool.not_eq_true', decide_eq_false_iff_not] at this
    omega
/-- What is known of a store's disk: the first c records are sure. -/
structure Dur (st : TStore) (c : Nat) : Prop where
  g : GoodS st
  le : c ≤ (scanL st.1.1).length
  out : ∀ i, ¬ (c ≤ i ∧ i < (scanL st.1.1).length) → st.1.2[i]? = st.1.1[i]?
  inn : ∀ i s, c ≤ i → i < (scanL st.1.1).length → st.1.2[i]? = some s → newer st.2.1 s = false
  ep : ∀ i (h : i < (scanL st.1.1).length), c ≤ i → (scanL st.1.1)[i].1 = st.2.1
  sc : scanL st.1.2 = (scanL st.1.1).take c
theorem newer_stops {e : Int} {s : ByteArray} (h : newer e s = false) (i : Nat) : goesOn e i s = false := by
  simp only [newer, Bool.and_eq_false_iff, decide_eq_false_iff_not] at h
  simp only [goesOn]
  rcases h with h | h
  · rw [h]; rfl
  · rw [dec_true (show (getRec s).1.1 < e by omega)]; simp
theorem lastE_take {L : List TRec} {e : Int} {j : Nat} (h0 : 0 < j) (hj : j ≤ L.length) : lastE e (L.take j) = (L[j - 1]'(by omega)).1 := by
  induction L generalizing e j with
  | nil => simp at hj; omega
  | cons r L ih =>
    cases j with
    | zero => omega
    | succ j =>
      simp only [List.take_succ_cons, lastE]
      cases j with
      | zero => simp [lastE]
      | succ j =>
        rw [ih (by omega) (by simpa using hj)]
        simp
theorem dur_mix_get {st : TStore} {c : Nat} (h : Dur st c) (k : List Bool) {i : Nat} (hi : i < st.1.1.length) (hk : k.getD i false = true ∨ ¬ (c ≤ i ∧ i < (scanL st.1.1).length)) : (mixL st.1.1 st.1.2 k)[i]? = st.1.1[i]? := by
  obtain ⟨_, k2, _⟩ := diskB_S h.g.dk
  rw [mixL_get k2 hi]
  split
  · rfl
  · rename_i hn
    rcases hk with hk | hk
    · exact absurd hk hn
    · exact h.out i hk
theorem take_next {α : Type} {x now : List α} {j : Nat} (hx : x.take j = now.take j) (hj : j < now.length) (hlen : x.length = now.length) (he : x[j]? = now[j]?) : x.take (j + 1) = now.take (j + 1) := by
  rw [List.take_succ_eq_append_getElem (show j < x.length by omega), List.take_succ_eq_append_getElem hj, hx]
  rw [List.getElem?_eq_getElem (show j < x.length by omega), List.getElem?_eq_getElem hj] at he
  injection he with he
  rw [he]
theorem dur_scan {st : TStore} {c : Nat} (h : Dur st c) (k : List Bool) : ∃ m, c ≤ m ∧ m ≤ (scanL st.1.1).length ∧ scanL (mixL st.1.1 st.1.2 k) = (scanL st.1.1).take m := by
  obtain ⟨_, k2, k3, _⟩ := diskB_S h.g.dk
  have hml := mixL_len st.1.1 st.1.2 k
  have hll : (scanL st.1.1).length ≤ st.1.1.length := scanF_len 0 0 st.1.1
  have go : ∀ (n j : Nat), j + n = (scanL st.1.1).length → c ≤ j → (mixL st.1.1 st.1.2 k).take j = st.1.1.take j → ∃ m, c ≤ m ∧ m ≤ (scanL st.1.1).length ∧ scanL (mixL st.1.1 st.1.2 k) = (scanL st.1.1).take m := by
    intro n
    induction n with
    | zero =>
      intro j hj hc hx
      rw [Nat.add_zero] at hj
      refine ⟨j, hc, by omega, ?_⟩
      rw [scan_split (by omega) hx hml, hj, List.take_length]
      have hdrop : (mixL st.1.1 st.1.2 k).drop (scanL st.1.1).length = st.1.1.drop (scanL st.1.1).length := by
        refine List.ext_getElem? fun i => ?_
        rw [List.getElem?_drop, List.getElem?_drop]
        by_cases hi : (scanL st.1.1).length + i < st.1.1.length
        · exact dur_mix_get h k hi (.inr (by omega))
        · rw [List.getElem?_eq_none (by omega), List.getElem?_eq_none (by omega)]
      rw [hdrop, scan_end rfl, List.append_nil]
    | succ n ih =>
      intro j hj hc hx
      have hjl : j < st.1.1.length := by omega
      cases hk : k.getD j false with
      | true => exact ih (j + 1) (by omega) (by omega) (take_next hx hjl hml (dur_mix_get h k hjl (.inl hk)))
      | false =>
        refine ⟨j, hc, by omega, ?_⟩
        rw [scan_split (by omega) hx hml]
        have hs : scanF (lastE 0 ((scanL st.1.1).take j)) j ((mixL st.1.1 st.1.2 k).drop j) = [] := by
          refine scanF_stop _ _ _ fun s hs => ?_
          have hs2 : (mixL st.1.1 st.1.2 k)[j]? = some s := by
            rw [List.head?_eq_getElem?, List.getElem?_drop, Nat.add_zero] at hs
            exact hs
          rw [mixL_get k2 hjl, hk, if_neg (by simp)] at hs2
          by_cases hjc : j = c
          · have hsp := scan_split (now := st.1.2) (x := st.1.2) (j := c) (by rw [h.sc, List.length_take]; omega) rfl rfl
            rw [h.sc, List.take_take, Nat.min_self] at hsp
            have hnil : scanF (lastE 0 ((scanL st.1.1).take c)) c (st.1.2.drop c) = [] := by
              have h2 : (scanL st.1.1).take c ++ [] = (scanL st.1.1).take c ++ scanF (lastE 0 ((scanL st.1.1).take c)) c (st.1.2.drop c) := by rw [List.append_nil]; exact hsp
              exact (List.append_cancel_left h2).symm
            rw [hjc] at hs2 ⊢
            have hcl : c < st.1.2.length := (List.getElem?_eq_some_iff.1 hs2).1
            rw [List.drop_eq_getElem_cons hcl, scanF_cons] at hnil
            have : st.1.2[c] = s := by rw [List.getElem?_eq_getElem hcl] at hs2; injection hs2
            rw [this] at hnil
            cases hg : goesOn (lastE 0 ((scanL st.1.1).take c)) c s with
            | false => rfl
            | true => rw [hg] at hnil; cases hnil
          · rw [lastE_take (by omega) (by omega), h.ep (j - 1) (by omega) (by omega)]
            exact newer_stops (h.inn j s hc (by omega) hs2) _
        rw [hs, List.append_nil]
  refine go ((scanL st.1.1).length - c) c (by have := h.le; omega) (Nat.le_refl _) ?_
  refine List.ext_getElem? fun i => ?_
  by_cases hi : i < c
  · rw [List.getElem?_take_of_lt hi, List.getElem?_take_of_lt hi]
    exact dur_mix_get h k (by have := h.le; omega) (.inr (by omega))
  · rw [List.getElem?_eq_none (by rw [List.length_take]; omega), List.getElem?_eq_none (by rw [List.length_take]; omega)]
theorem mix_mem {now sure : List ByteArray} {k : List Bool} (h : now.length = sure.length) {s : ByteArray} (hs : s ∈ mixL now sure k) : s ∈ now ∨ s ∈ sure := by
  obtain ⟨i, hi, rfl⟩ := List.getElem_of_mem hs
  have hi' : i < now.length := by rw [mixL_len] at hi; exact hi
  have := mixL_get (k := k) h hi'
  rw [List.getElem?_eq_getElem hi] at this
  split at this
  · exact .inl (List.mem_of_getElem? this.symm)
  · exact .inr (List.mem_of_getElem? this.symm)
theorem dur_sure_ep {st : TStore} {c : Nat} (h : Dur st c) : ∀ s ∈ st.1.2, (getRec s).2.1 = true → (getRec s).1.1 ≤ st.2.1 := by
  intro s hs hr
  obtain ⟨i, hi, rfl⟩ := List.getElem_of_mem hs
  by_cases hb : c ≤ i ∧ i < (scanL st.1.1).length
  · have := h.inn i _ hb.1 hb.2 (List.getElem?_eq_getElem hi)
    simp only [newer, hr, Bool.true_and, decide_eq_false_iff_not] at this
    omega
  · have := h.out i hb
    rw [List.getElem?_eq_getElem hi] at this
    exact good_ep h.g _ (List.mem_of_getElem? this.symm) hr
theorem foldAll_take : ∀ (l : List TRec) (us us' : List TUp) (m : Nat), foldAll us l = some us' → ∃ u, foldAll us (l.take m) = some u
  | _, us, _, 0, _ => ⟨us, by simp [foldAll]⟩
  | [], us, us', m + 1, h => ⟨us', by simpa using h⟩
  | r :: l, us, us', m + 1, h => by
    simp only [foldAll] at h
    simp only [List.take_succ_cons, foldAll]
    split at h
    · rename_i u1 e1
      exact foldAll_take l u1 us' m h
    · cases h
theorem topL_lt {l : List ByteArray} {b : Int} (hb : -1 ≤ b) (h : ∀ s ∈ l, (getRec s).2.1 = true → (getRec s).1.1 ≤ b) : topL l ≤ b := by
  have h1 := foldl_top (b + 1) l (-1)
  have h2 : (l.all fun s => !newer (b + 1) s) = true := List.all_eq_true.2 fun s hs => by
    simp only [newer, Bool.not_eq_true', Bool.and_eq_false_iff, decide_eq_false_iff_not]
    cases hr : (getRec s).2.1 with
    | false => exact .inl rfl
    | true => have := h s hs hr; exact .inr (by omega)
  rw [h2, dec_true (show (-1 : Int) < b + 1 by omega), Bool.and_true] at h1
  have := of_decide_eq_true h1
  show l.foldl topOf (-1) ≤ b
  omega
/-- What opens of sectors. -/
def openedF (x : List ByteArray) (us : List TUp) : TStore := ((x, x), (topL x + 1, ((List.length (scanL x) : Int), us)))
theorem opened_good {x : List ByteArray} {us : List TUp} (hd : diskB (x, x) = true) (hu : foldAll [] (scanL x) = some us) (ht : topL x + 1 ≤ 10000) : GoodS (openedF x us) := by
  have h0 := topL_le x
  refine ⟨hd, ⟨by show 0 ≤ topL x + 1; omega, ht⟩, hu, rfl, ?_, ?_⟩
  · show lastE 0 (scanL x) ≤ topL x + 1
    have hg : ∀ (i : Nat) (hi : i < (scanL x).length), ∃ s, x[i]? = some s ∧ getRec s = ((scanL x)[i], true, ()) := scanF_get 0 0 x
    by_cases hl : 0 < (scanL x).length
    · have e := lastE_take (L := scanL x) (e := 0) (j := (scanL x).length) hl (Nat.le_refl _)
      rw [List.take_length] at e
      rw [e]
      obtain ⟨s, h1, h2⟩ := hg ((scanL x).length - 1) (by omega)
      have h3 := topL_ge (List.mem_of_getElem? h1) (by rw [h2])
      rw [h2] at h3
      have h5 : ((scanL x)[(scanL x).length - 1]'(by omega)).1 ≤ topL x := h3
      have h6 : @LE.le Int _ ((scanL x)[(scanL x).length - 1]'(by omega)).1 (topL x + 1) := by omega
      exact h6
    · rw [List.length_eq_zero_iff.1 (show (scanL x).length = 0 by omega)]
      show (0 : Int) ≤ _
      omega
  · refine List.all_eq_true.2 fun s hs => ?_
    have hs2 : s ∈ x := List.mem_of_mem_drop hs
    simp only [newer, Bool.not_eq_true', Bool.and_eq_false_iff, decide_eq_false_iff_not]
    cases hr : (getRec s).2.1 with
    | false => exact .inl rfl
    | true =>
      have := topL_ge hs2 hr
      refine .inr ?_
      show ¬ (getRec s).1.1 ≥ topL x + 1
      omega
theorem synced_dur {st : TStore} (h : GoodS st) : Dur ((st.1.1, st.1.1), st.2) (scanL st.1.1).length :=
  ⟨⟨diskB_now h.dk, h.ep, h.up, h.nx, h.le, h.tl⟩, Nat.le_refl _, fun i _ => rfl, fun i s h1 h2 _ => by (have h3 : i < (scanL st.1.1).length := h2; omega), fun i h1 h2 => by (have h3 : i < (scanL st.1.1).length := h1; omega), (List.take_length).symm⟩
theorem opened_dur {x : List ByteArray} {us : List TUp} (h : GoodS (openedF x us)) : Dur (openedF x us) (scanL x).length := synced_dur h
theorem dur_wrote {st : TStore} {c : Nat} (h : Dur st c) {r : TRec} (hr : RecG r) (h1 : r.1 = st.2.1) (h2 : r.2.1 = st.2.2.1) (hlt : st.2.2.1 < (st.1.1.length : Int)) {us : List TUp} (hf : foldOne st.2.2.2 r = some us) : Dur (wrote st r us) c := by
  obtain ⟨hg, hsc⟩ := good_wrote h.g hr h1 h2 hlt hf
  have hnx := h.g.nx
  have hto : st.2.2.1.toNat = (scanL st.1.1).length := by omega
  have hll : (scanL st.1.1).length < st.1.1.length := by omega
  have hlen : ((scanL st.1.1) ++ [r]).length = (scanL st.1.1).length + 1 := by simp
  have hle := h.le
  refine ⟨hg, by rw [hsc, hlen]; omega, fun i hi => ?_, fun i s hc hi hs => ?_, fun i hi hc => ?_, ?_⟩
  · rw [hsc, hlen] at hi
    show st.1.2[i]? = (st.1.1.set st.2.2.1.toNat (putRec r))[i]?
    rw [hto, List.getElem?_set_ne (by omega)]
    exact h.out i (by omega)
  · rw [hsc, hlen] at hi
    by_cases hi2 : i < (scanL st.1.1).length
    · exact h.inn i s hc hi2 hs
    · have e := h.out i (by omega)
      have hs' : st.1.2[i]? = some s := hs
      rw [e] at hs'
      have hm : s ∈ st.1.1.drop (scanL st.1.1).length := by
        rw [List.mem_iff_getElem?]
        exact ⟨i - (scanL st.1.1).length, by rw [List.getElem?_drop, show (scanL st.1.1).length + (i - (scanL st.1.1).length) = i by omega]; exact hs'⟩
      have := List.all_eq_true.1 h.g.tl s hm
      have h7 : newer st.2.1 s = false := by simpa using this
      exact h7
  · have hi' := hi
    rw [hsc, hlen] at hi'
    have e : (scanL (wrote st r us).1.1)[i] = ((scanL st.1.1) ++ [r])[i]'(by omega) := by simp only [hsc]
    rw [e]
    by_cases hi2 : i < (scanL st.1.1).length
    · rw [List.getElem_append_left hi2]
      exact h.ep i hi2 hc
    · rw [List.getElem_append_right (by omega)]
      simp only [show i - (scanL st.1.1).length = 0 by omega, List.getElem_cons_zero]
      exact h1
  · show scanL st.1.2 = _
    rw [hsc, List.take_append_of_le_length hle]
    exact h.sc
theorem dur_crash {st : TStore} {c : Nat} (h : Dur st c) (k : List Bool) (hep : st.2.1 ≤ 9999) : ∃ m us, c ≤ m ∧ m ≤ (scanL st.1.1).length ∧ scanL (mixL st.1.1 st.1.2 k) = (scanL st.1.1).take m ∧ foldAll [] ((scanL st.1.1).take m) = some us ∧
    topL (mixL st.1.1 st.1.2 k) ≤ st.2.1 ∧ diskB (fallF st.1 k) = true ∧ GoodS (openedF (mixL st.1.1 st.1.2 k) us) := by
  obtain ⟨_, k2, k3, k4, k5⟩ := diskB_S h.g.dk
  obtain ⟨m, h1, h2, h3⟩ := dur_scan h k
  obtain ⟨us, hu⟩ := foldAll_take _ _ _ m h.g.up
  have hml := mixL_len st.1.1 st.1.2 k
  have hdb : diskB (mixL st.1.1 st.1.2 k, mixL st.1.1 st.1.2 k) = true := by
    have hall : ∀ s ∈ mixL st.1.1 st.1.2 k, s.size ≤ 64 := fun s hs => (mix_mem k2 hs).elim (k4 s) (k5 s)
    exact diskB_of rfl (by simp only [hml]; exact k3) hall hall
  have ht : topL (mixL st.1.1 st.1.2 k) ≤ st.2.1 := topL_lt (by have := h.g.ep.1; omega) fun s hs hr => (mix_mem k2 hs).elim (fun hs => good_ep h.g s hs hr) (fun hs => dur_sure_ep h s hs hr)
  exact ⟨m, us, h1, h2, h3, hu, ht, hdb, opened_good hdb (by rw [h3]; exact hu) (by omega)⟩

theorem rt_bnd {st : TStore} (h : Rt st) : 0 ≤ st.2.2.1 ∧ st.1.1.length ≤ 200 := ⟨h.g.2.2.2.2.1.1, h.g.2.2.2.1⟩
theorem good_all {st : TStore} (h : GoodS st) : Rt st ∧ StoreS st ∧ P_s_StoreOk st = some (true, ()) ∧ P_i_StoreOk st = some (true, ()) := by
  have hU := good_ups h
  have hS := diskB_S h.dk
  obtain ⟨b, h1, h2, h3⟩ := storeOk_iff st hS.1.1 (fun u hu => (hU.2.2 u hu).2.2.2)
  rw [h3.2 h] at h1 h2
  exact ⟨good_rt h hU, ups_storeS hS.1 hU, h1, h2⟩
/-- A drawn store: not many crashes, and few names. -/
structure Drawn (k : Nat) (st : TStore) : Prop where
  dur : ∃ c, Dur st c
  ep : st.2.1 ≤ (k : Int)
  ids : ∀ s, s ∈ st.1.1 ∨ s ∈ st.1.2 → (getRec s).2.1 = true → (getRec s).1.2.2.2.1 ∈ [(⟨#[97]⟩ : ByteArray), (⟨#[98]⟩ : ByteArray), (⟨#[99]⟩ : ByteArray)]
theorem s_open_eq {x : List ByteArray} {us : List TUp} (h : GoodS (openedF x us)) : P_s_OpenStore_r99_0 (x, x) = some (openedF x us, true, ()) := by
  obtain ⟨hS, _, h200, _⟩ := diskB_S h.dk
  have hdk : diskB (x, x) = true := h.dk
  have hl : x.length ≤ 200 := h200
  have hll := scanF_len 0 0 x
  have hfs := s_FoldRecs_eq (scanL x) (by simp only [maxLen, scanL]; omega) (scanF_good 0 0 x)
  have hf : foldRecs (scanL x) = (us, true, ()) := by
    unfold foldRecs
    rw [show foldAll [] (scanL x) = some us from h.up]
  have htop := topL_le x
  have hep : topL x + 1 ≤ 10000 := h.ep.2
  simp only [P_s_OpenStore_r99_0, B_s_OpenStore_r99_0, s_DiskOk_eq, hdk, s_scan_eq (x, x) hS.1, hfs, hf, s_TopEpoch_eq (x, x) hS.1, s_copyDisk_eq (x, x) hS, bO, Bool.not_true, cond_false]
  rw [w64 (n := topL x + 1) (by omega) (by omega), dec_false (show ¬ topL x + 1 > 10000 by omega)]
  rfl
theorem scanF_none (last : Int) (i : Nat) (l : List ByteArray) (h : ∀ s ∈ l, (getRec s).2.1 = false) : scanF last i l = [] := scanF_stop _ _ _ fun s hs => by
  simp only [goesOn, h s (List.mem_of_mem_head? hs), Bool.false_and]
theorem getRec_empty : (getRec ⟨#[]⟩).2.1 = false := by
  unfold getRec recGood
  have h0 : (⟨#[]⟩ : ByteArray).size = 0 := rfl
  rw [h0, dec_false (by omega)]
  rfl
theorem newDisk_drawn (n : Int) (hn : n ≤ 200) : Drawn 0 (newDisk n, (0, (0, []))) := by
  have hall : ∀ s, s ∈ (newDisk n).1 ∨ s ∈ (newDisk n).2 → s = ⟨#[]⟩ := by
    intro s hs
    unfold newDisk at hs
    split at hs
    · rcases hs with hs | hs <;> exact (List.mem_replicate.1 hs).2
    · rcases hs with hs | hs <;> cases hs
  have hg : ∀ s ∈ (newDisk n).1, (getRec s).2.1 = false := fun s hs => by rw [hall s (.inl hs)]; exact getRec_empty
  have hsc : scanL (newDisk n).1 = [] := scanF_none _ _ _ hg
  have hsz : ∀ s, s ∈ (newDisk n).1 ∨ s ∈ (newDisk n).2 → s.size ≤ 64 := fun s hs => by rw [hall s hs]; show 0 ≤ 64; omega
  have hlen : (newDisk n).1.length = (newDisk n).2.length ∧ (newDisk n).1.length ≤ 200 := by
    unfold newDisk
    split <;> simp <;> omega
  have heq : (newDisk n).2 = (newDisk n).1 := by
    unfold newDisk
    split <;> rfl
  have hG : GoodS (newDisk n, (0, (0, []))) := by
    refine ⟨diskB_of hlen.1 hlen.2 (fun s hs => hsz s (.inl hs)) (fun s hs => hsz s (.inr hs)), by simp, ?_, ?_, ?_, ?_⟩
    · show foldAll [] (scanL (newDisk n).1) = _; rw [hsc]; rfl
    · show (0 : Int) = ((scanL (newDisk n).1).length : Int); rw [hsc]; rfl
    · show lastE 0 (scanL (newDisk n).1) ≤ 0; rw [hsc]; exact Int.le_refl _
    · refine List.all_eq_true.2 fun s hs => ?_
      have := hg s (List.mem_of_mem_drop hs)
      simp only [newer, this, Bool.false_and, Bool.not_false]
  refine ⟨⟨0, hG, Nat.zero_le _, fun i _ => by rw [show ((newDisk n, ((0 : Int), ((0 : Int), ([] : List TUp)))) : TStore).1.2 = (newDisk n).1 from heq], fun i s _ h2 _ => ?_, fun i h1 _ => ?_, ?_⟩, by simp, fun s hs hr => ?_⟩
  · have h2' : i < (scanL (newDisk n).1).length := h2
    rw [hsc] at h2'; simp at h2'
  · have h1' : i < (scanL (newDisk n).1).length := h1
    rw [hsc] at h1'; simp at h1'
  · show scanL (newDisk n).2 = (scanL (newDisk n).1).take 0
    rw [heq, hsc]; rfl
  · rw [hall s hs, getRec_empty] at hr; cases hr

def lenOf (st : TStore) (id : ByteArray) : Int := if upHas st.2.2.2 id = true then (List.length (rd kUp st.2.2.2 (upIns st.2.2.2 id : Int)).2.2.1 : Int) else 0
def codeResp (st : TStore) (code : Int) (id : ByteArray) : TResp :=
  if code = 2 then (404, -1) else if code = 3 ∨ code = 4 then (409, lenOf st id) else if code = 5 then (507, -1) else if code = 6 then (422, -1) else (400, -1)
def seeF (st : TStore) (r : TReq) : TResp :=
  if upHas st.2.2.2 r.2.1 = true then (if r.1 = 5 ∧ (rd kUp st.2.2.2 (upIns st.2.2.2 r.2.1 : Int)).2.2.2 = false then (409, lenOf st r.2.1) else (200, lenOf st r.2.1)) else (404, -1)
/-- What a request makes of a store, and its answer. -/
def ansF (st : TStore) (r : TReq) (dat : List Int) : TStore × TResp :=
  if r.1 = 1 then ((makeF st r.2.1 r.2.2).1, if (makeF st r.2.1 r.2.2).2 = 0 then (201, 0) else codeResp st (makeF st r.2.1 r.2.2).2 r.2.1)
  else if r.1 = 3 then ((putF st r.2.1 r.2.2 dat).1, if (putF st r.2.1 r.2.2 dat).2 = 0 then (204, r.2.2 + (dat.length : Int)) else codeResp st (putF st r.2.1 r.2.2 dat).2 r.2.1)
  else if r.1 = 4 then ((doneF st r.2.1 r.2.2).1, if (doneF st r.2.1 r.2.2).2 = 0 then (200, -1) else codeResp st (doneF st r.2.1 r.2.2).2 r.2.1)
  else if r.1 = 6 then ((dropF st r.2.1).1, if (dropF st r.2.1).2 = 0 then (204, -1) else codeResp st (dropF st r.2.1).2 r.2.1)
  else (st, seeF st r)
theorem makeF_same {st : TStore} {id : ByteArray} {n : Int} (h : ¬ (makeF st id n).2 = 0) : (makeF st id n).1 = st := by
  unfold makeF at h ⊢
  split
  · rename_i h1
    rw [if_pos h1] at h
    split
    · rfl
    · rename_i h2
      rw [if_neg h2] at h
      split
      · rfl
      · rename_i h3
        rw [if_neg h3] at h
        exact absurd rfl h
  · rfl
theorem putF_same {st : TStore} {id : ByteArray} {n : Int} {d : List Int} (h : ¬ (putF st id n d).2 = 0) : (putF st id n d).1 = st := by
  unfold putF at h ⊢
  split
  · rename_i h1
    rw [if_pos h1] at h
    split
    · rename_i h2
      rw [if_pos h2] at h
      split
      · rfl
      · rename_i h3
        rw [if_neg h3] at h
        split
        · rfl
        · rename_i h4
          rw [if_neg h4] at h
          exact absurd rfl h
    · rfl
  · rfl
theorem doneF_same {st : TStore} {id : ByteArray} {n : Int} (h : ¬ (doneF st id n).2 = 0) : (doneF st id n).1 = st := by
  unfold doneF at h ⊢
  split
  · rename_i h1
    rw [if_pos h1] at h
    split
    · rename_i h2
      rw [if_pos h2] at h
      split
      · rfl
      · rename_i h3
        rw [if_neg h3] at h
        split
        · rfl
        · rename_i h4
          rw [if_neg h4] at h
          split
          · rfl
          · rename_i h5
            rw [if_neg h5] at h
            split
            · rfl
            · rename_i h6
              rw [if_neg h6] at h
              exact absurd rfl h
    · rfl
  · rfl
theorem dropF_same {st : TStore} {id : ByteArray} (h : ¬ (dropF st id).2 = 0) : (dropF st id).1 = st := by
  unfold dropF at h ⊢
  split
  · rename_i h1
    rw [if_pos h1] at h
    split
    · rename_i h2
      rw [if_pos h2] at h
      split
      · rfl
      · rename_i h4
        rw [if_neg h4] at h
        exact absurd rfl h
    · rfl
  · rfl
theorem putF_len {st : TStore} {id : ByteArray} {off : Int} {dat : List Int} (h : Rt st) (hb : Byt dat) (h0 : (putF st id off dat).2 = 0) : lenOf (putF st id off dat).1 id = off + (dat.length : Int) ∧ off = lenOf st id ∧ 0 ≤ off := by
  unfold putF at h0 ⊢
  split at h0
  · rename_i h1
    rw [if_pos h1]
    split at h0
    · rename_i h3
      rw [if_pos h3]
      split at h0
      · simp at h0
      · rename_i h4
        rw [if_neg h4]
        split at h0
        · simp at h0
        · rename_i h5
          rw [if_neg h5]
          have hc := putC_of h hb h1.1 h1.2 h3 h4 h5
          have hI := putI_at hc _ (Nat.le_refl _)
          have hn : dat.length ≤ nPc dat * 24 := by
            have : ¬ nPc dat < nPc dat := Nat.lt_irrefl _
            rw [nPc_lt] at this
            omega
          have hat := hc.at'
          refine ⟨?_, ?_, by omega⟩
          · unfold lenOf
            rw [if_pos hI.has, hI.val]
            simp only [List.length_append, List.take_of_length_le hn]
            omega
          · unfold lenOf
            rw [if_pos h3]
            exact hat
    · simp at h0
  · simp at h0
theorem s_upAt_eq (st : TStore) (id : ByteArray) (hU : Ups st.2.2.2) : P_s_UpAt st id = some (if upHas st.2.2.2 id = true then rd kUp st.2.2.2 (upIns st.2.2.2 id : Int) else (⟨#[]⟩, (0, ([], false))), upHas st.2.2.2 id, ()) := by
  simp only [P_s_UpAt, B_s_UpAt]
  rw [s_at_eq st.2.2.2 id hU]
  cases hh : upHas st.2.2.2 id with
  | false =>
    simp only [Bool.false_eq_true, if_false, bO]
    rw [dec_true (show (-1 : Int) < 0 by omega)]
    rfl
  | true =>
    obtain ⟨hlt, hid2⟩ := upHas_iff.1 hh
    have hdl := ups_dat hU _ (List.getElem_mem hlt)
    rw [← rd_nat (k := kUp) hlt] at hdl
    simp only [if_true, bO]
    rw [dec_false (show ¬ (upIns st.2.2.2 id : Int) < 0 by omega), dec_true (show (0 : Int) ≤ (upIns st.2.2.2 id : Int) by omega), dec_true (show (upIns st.2.2.2 id : Int) < (st.2.2.2.length : Int) by omega), dec_true (by simp; omega), dec_true (by simp; omega)]
    simp only [cond_true, cond_false, List.nil_append]
theorem s_bad_eq (st : TStore) (id : ByteArray) (c : Int) (hU : Ups st.2.2.2) : P_s_l15Bad st id c = some (codeResp st c id, ()) := by
  have hlo : (List.length (if upHas st.2.2.2 id = true then rd kUp st.2.2.2 (upIns st.2.2.2 id : Int) else ((⟨#[]⟩, (0, ([], false))) : TUp)).2.2.1 : Int) = lenOf st id := by
    unfold lenOf; split <;> rfl
  simp only [P_s_l15Bad, B_s_l15Bad, s_upAt_eq st id hU, codeResp, bO, hlo]
  by_cases h2 : c = 2
  · rw [dec_true h2, if_pos h2]; rfl
  rw [dec_false h2, if_neg h2]
  by_cases h3 : c = 3
  · rw [dec_true h3, if_pos (.inl h3)]; rfl
  rw [dec_false h3]
  by_cases h4 : c = 4
  · rw [dec_true h4, if_pos (.inr h4)]; rfl
  rw [dec_false h4, if_neg (fun h => h.elim h3 h4)]
  simp only [cond_false, bO]
  by_cases h5 : c = 5
  · rw [dec_true h5, if_pos h5]; rfl
  rw [dec_false h5, if_neg h5]
  by_cases h6 : c = 6
  · rw [dec_true h6, if_pos h6]; rfl
  rw [dec_false h6, if_neg h6]
  rfl
theorem s_looks_eq (st : TStore) (r : TReq) (hU : Ups st.2.2.2) : P_s_l15Looks st r = some (seeF st r, ()) := by
  simp only [P_s_l15Looks, B_s_l15Looks, s_upAt_eq st r.2.1 hU, seeF, lenOf, bO]
  cases hh : upHas st.2.2.2 r.2.1 with
  | false => rfl
  | true =>
    simp only [if_true, Bool.not_true, cond_false]
    by_cases h5 : r.1 = 5
    · rw [dec_true h5]
      cases hd : (rd kUp st.2.2.2 (upIns st.2.2.2 r.2.1 : Int)).2.2.2 with
      | true => rw [if_neg (fun h => by cases h.2)]; rfl
      | false => rw [if_pos ⟨h5, rfl⟩]; rfl
    · rw [dec_false h5, if_neg (fun h => h5 h.1)]
      rfl
theorem s_does_eq (st : TStore) (r : TReq) (dat : List Int) (hid : r.2.1.size ≤ maxLen) (h : Rt st) (hS : StoreS st) (hok : P_s_StoreOk st = some (true, ())) (hb : Byt dat) (hd : dat.length ≤ 1048576) (ho : -9223372036854775808 ≤ r.2.2 ∧ r.2.2 ≤ 9223372036854775807) :
    P_s_l15Does_r99_0 st r dat = some ((ansF st r dat).1, (ansF st r dat).2, ()) := by
  have hU := h.up
  simp only [P_s_l15Does_r99_0, B_s_l15Does_r99_0, ansF]
  by_cases h1 : r.1 = 1
  · rw [dec_true h1, if_pos h1, s_makeUp_eq st r.2.1 r.2.2 hid h hS hok]
    simp only [cond_true, bO, bindS]
    by_cases hz : (makeF st r.2.1 r.2.2).2 = 0
    · rw [dec_true hz, if_pos hz]; rfl
    · rw [dec_false hz, if_neg hz, makeF_same hz]
      simp only [Bool.not_false, cond_true, s_bad_eq st r.2.1 _ hU, bO]
  rw [dec_false h1, if_neg h1]
  by_cases h3 : r.1 = 3
  · rw [dec_true h3, if_pos h3, s_putUp_eq st r.2.1 r.2.2 dat hid h hS hok hb hd ho]
    simp only [cond_true, cond_false, bO, bindS]
    by_cases hz : (putF st r.2.1 r.2.2 dat).2 = 0
    · rw [dec_true hz, if_pos hz]
      have hl := putF_len h hb hz
      have hlo : lenOf st r.2.1 ≤ 2000000000 := by
        unfold lenOf
        split
        · rename_i hh
          obtain ⟨hlt, _⟩ := upHas_iff.1 hh
          have hdl := ups_dat hU _ (List.getElem_mem hlt)
          rw [← rd_nat (k := kUp) hlt] at hdl
          omega
        · omega
      rw [w64 (by omega) (by omega)]
      rfl
    · rw [dec_false hz, if_neg hz, putF_same hz]
      simp only [Bool.not_false, cond_true, s_bad_eq st r.2.1 _ hU, bO]
  rw [dec_false h3, if_neg h3]
  by_cases h4 : r.1 = 4
  · rw [dec_true h4, if_pos h4, s_doneUp_eq st r.2.1 r.2.2 hid h hS hok]
    simp only [cond_true, cond_false, bO, bindS]
    by_cases hz : (doneF st r.2.1 r.2.2).2 = 0
    · rw [dec_true hz, if_pos hz]; rfl
    · rw [dec_false hz, if_neg hz, doneF_same hz]
      simp only [Bool.not_false, cond_true, s_bad_eq st r.2.1 _ hU, bO]
  rw [dec_false h4, if_neg h4]
  by_cases h6 : r.1 = 6
  · rw [dec_true h6, if_pos h6, s_dropUp_eq st r.2.1 hid h hS hok]
    simp only [cond_true, cond_false, bO, bindS]
    by_cases hz : (dropF st r.2.1).2 = 0
    · rw [dec_true hz, if_pos hz]; rfl
    · rw [dec_false hz, if_neg hz, dropF_same hz]
      simp only [Bool.not_false, cond_true, s_bad_eq st r.2.1 _ hU, bO]
  rw [dec_false h6, if_neg h6, s_looks_eq st r hU]
  rfl
def cutOff (c : Client) : Client := if clientOkB c && !overB c then (c.1, c.2.1, 2, c.2.2.2) else c
theorem s_CutOff_eq (c : Client) (h : c.1.size ≤ maxLen) (h2 : c.2.1.length ≤ 140737488355328) : P_s_CutOff c = some (cutOff c, ()) := by
  simp only [P_s_CutOff, B_s_CutOff, pe, l17Copy_eq _ h2, s_ClientOk_eq _ h, l17Over_eq, bindO, cutOff]
  cases clientOkB c <;> cases overB c <;> simp

theorem ord_inj {us : List TUp} (ho : Ord us) {i j : Nat} (hi : i < us.length) (hj : j < us.length) (h : us[i].1.toList = us[j].1.toList) : i = j := by
  rcases Nat.lt_trichotomy i j with h1 | h1 | h1
  · have := List.pairwise_iff_getElem.1 ho i j hi hj h1
    rw [h] at this
    simp [bl_irrefl] at this
  · exact h1
  · have := List.pairwise_iff_getElem.1 ho j i hj hi h1
    rw [h] at this
    simp [bl_irrefl] at this
theorem upAt_mem {st : TStore} (ho : Ord st.2.2.2) {u : TUp} (hu : u ∈ st.2.2.2) : upAt st u.1 = (u, true, ()) := by
  obtain ⟨i, hi, rfl⟩ := List.getElem_of_mem hu
  have hle : upIx st.2.2.2 st.2.2.2[i].1 ≤ i := by
    refine Nat.le_of_not_lt fun hlt => ?_
    have := firstN_goes _ st.2.2.2.length 0 i (by omega) hlt
    rw [rd_nat (k := kUp) (xs := st.2.2.2) hi] at this
    simp at this
  have hlt : upIx st.2.2.2 st.2.2.2[i].1 < st.2.2.2.length := by omega
  have hf := firstN_fails (fun j => !((rd kUp st.2.2.2 (j : Int)).1.toList == st.2.2.2[i].1.toList)) st.2.2.2.length 0 (by have : upIx st.2.2.2 st.2.2.2[i].1 < st.2.2.2.length := hlt; unfold upIx at this; omega)
  have hf2 : (!((rd kUp st.2.2.2 (upIx st.2.2.2 st.2.2.2[i].1 : Int)).1.toList == st.2.2.2[i].1.toList)) = false := hf
  rw [rd_nat (k := kUp) (xs := st.2.2.2) hlt] at hf2
  simp only [Bool.not_eq_false', beq_iff_eq] at hf2
  have := ord_inj ho hlt hi hf2
  unfold upAt
  rw [if_pos hlt, rd_nat (k := kUp) (xs := st.2.2.2) hlt]
  simp only [this]

/-- An upload as it was, or further. -/
structure LeU (u v : TUp) : Prop where
  id : u.1 = v.1
  want : @Eq Int u.2.1 v.2.1
  len : List.length u.2.2.1 ≤ List.length v.2.2.1
  dat : u.2.2.1 = List.take (List.length u.2.2.1) v.2.2.1
  fin : u.2.2.2 = true → v.2.2.2 = true ∧ v.2.2.1 = u.2.2.1
def LeUs (us vs : List TUp) : Prop := ∀ u ∈ us, ∃ v ∈ vs, LeU u v
theorem leU_refl (u : TUp) : LeU u u := ⟨rfl, rfl, Nat.le_refl _, (List.take_length).symm, fun h => ⟨h, rfl⟩⟩
theorem leU_trans {u v x : TUp} (h : LeU u v) (h' : LeU v x) : LeU u x :=
  ⟨h.id.trans h'.id, h.want.trans h'.want, Nat.le_trans h.len h'.len, by
    have h1 := h.dat
    rw [h'.dat, List.take_take, Nat.min_eq_left h.len] at h1
    exact h1, fun hd => by
    obtain ⟨g1, g2⟩ := h.fin hd
    obtain ⟨g3, g4⟩ := h'.fin g1
    exact ⟨g3, g4.trans g2⟩⟩
theorem leUs_refl (us : List TUp) : LeUs us us := fun u hu => ⟨u, hu, leU_refl u⟩
theorem leUs_trans {us vs xs : List TUp} (h : LeUs us vs) (h' : LeUs vs xs) : LeUs us xs := fun u hu => by
  obtain ⟨v, hv, h1⟩ := h u hu
  obtain ⟨x, hx, h2⟩ := h' v hv
  exact ⟨x, hx, leU_trans h1 h2⟩
theorem leUs_set {us : List TUp} {p : Nat} {v : TUp} (h : ∀ hp : p < us.length, LeU us[p] v) : LeUs us (us.set p v) := fun u hu => by
  obtain ⟨j, hj, rfl⟩ := List.getElem_of_mem hu
  by_cases hjp : p = j
  · subst hjp
    exact ⟨v, List.mem_iff_getElem.2 ⟨p, by rw [List.length_set]; exact hj, List.getElem_set_self _⟩, h hj⟩
  · exact ⟨us[j], List.mem_iff_getElem.2 ⟨j, by rw [List.length_set]; exact hj, List.getElem_set_ne hjp _⟩, leU_refl _⟩
theorem foldOne_le {us us' : List TUp} {r : TRec} (h : foldOne us r = some us') (hk : r.2.2.1 ≠ 4) : LeUs us us' := by
  simp only [foldOne] at h
  split at h
  · split at h
    · cases h
    · injection h with h; subst h
      intro u hu
      refine ⟨u, ?_, leU_refl u⟩
      rw [← List.take_append_drop (upIns us r.2.2.2.1) us] at hu
      rcases List.mem_append.1 hu with hu | hu
      · exact List.mem_append_left _ hu
      · exact List.mem_append_right _ (List.mem_cons_of_mem _ hu)
  · split at h
    · cases h
    · split at h
      · split at h
        · cases h
        · rename_i hc
          injection h with h; subst h
          refine leUs_set fun hp => ?_
          rw [rd_nat (k := kUp) (xs := us) hp] at hc ⊢
          rw [not_or] at hc
          refine ⟨rfl, rfl, ?_, ?_, fun hd => absurd hd hc.1⟩
          · simp only [List.length_append]; omega
          · simp only [List.take_left]
      · split at h
        · split at h
          · cases h
          · injection h with h; subst h
            refine leUs_set fun hp => ?_
            rw [rd_nat (k := kUp) (xs := us) hp]
            refine ⟨rfl, rfl, Nat.le_refl _, (List.take_length).symm, fun _ => ⟨rfl, rfl⟩⟩
        · cases h
theorem foldAll_le : ∀ {l : List TRec} {us us' : List TUp}, foldAll us l = some us' → (∀ r ∈ l, r.2.2.1 ≠ 4) → LeUs us us'
  | [], us, us', h, _ => by
    simp only [foldAll, Option.some.injEq] at h; subst h
    exact leUs_refl _
  | r :: l, us, us', h, hk => by
    simp only [foldAll] at h
    split at h
    · rename_i us1 e1
      exact leUs_trans (foldOne_le e1 (hk r List.mem_cons_self)) (foldAll_le h fun x hx => hk x (List.mem_cons_of_mem _ hx))
    · cases h
/-- Prefixes of records: the uploads go on. -/
theorem fold_mono {L : List TRec} {a b : Nat} {ua ub : List TUp} (hab : a ≤ b) (ha : foldAll [] (L.take a) = some ua) (hb : foldAll [] (L.take b) = some ub) (hk : ∀ r ∈ L, r.2.2.1 ≠ 4) : LeUs ua ub := by
  have e : L.take b = L.take a ++ (L.take b).drop a := by
    have := List.take_append_drop a (L.take b)
    rw [List.take_take, Nat.min_eq_left hab] at this
    exact this.symm
  rw [e, foldAll_app, ha] at hb
  exact foldAll_le hb fun r hr => hk r (List.mem_of_mem_take (List.mem_of_mem_drop hr))
/-- An upload that is the beginning of a file. -/
structure OkU (f : List Int) (u : TUp) : Prop where
  want : @Eq Int u.2.1 (f.length : Int)
  len : List.length u.2.2.1 ≤ f.length
  dat : u.2.2.1 = f.take (List.length u.2.2.1)
  fin : u.2.2.2 = true → List.length u.2.2.1 = f.length
theorem okU_le {f : List Int} {u v : TUp} (h : LeU u v) (hv : OkU f v) : OkU f u := by
  refine ⟨h.want.trans hv.want, Nat.le_trans h.len hv.len, ?_, fun hd => ?_⟩
  · have h1 := h.dat
    rw [hv.dat, List.take_take, Nat.min_eq_left h.len] at h1
    exact h1
  · obtain ⟨g1, g2⟩ := h.fin hd
    rw [← g2]
    exact hv.fin g1
/-- A client as it may be while all goes well. -/
structure ClG (c : TClient) : Prop where
  ok : clientOkB c = true
  lo : c.2.2.1 ≠ 6
  byt : Byt c.2.1
  off : c.2.2.1 = 3 → c.2.2.2 < (c.2.1.length : Int)
/-- Answers that may come to a client. -/
def Fits (c : TClient) (r : TResp) : Prop :=
  (c.2.2.1 = 1 ∧ (r = (201, 0) ∨ (∃ o : Nat, o ≤ c.2.1.length ∧ r = (409, (o : Int))) ∨ r = (507, -1))) ∨
  (c.2.2.1 = 2 ∧ (r = (404, -1) ∨ ∃ o : Nat, o ≤ c.2.1.length ∧ r = (200, (o : Int)))) ∨
  (c.2.2.1 = 3 ∧ ((∃ o : Nat, o ≤ c.2.1.length ∧ (r = (204, (o : Int)) ∨ r = (409, (o : Int)))) ∨ r = (404, -1) ∨ r = (507, -1))) ∨
  (c.2.2.1 = 4 ∧ (r = (200, -1) ∨ r = (404, -1) ∨ (∃ o : Nat, o ≤ c.2.1.length ∧ r = (409, (o : Int))) ∨ r = (507, -1)))
/-- What an answer tells is there. -/
def Told (c : TClient) (r : TResp) (us : List TUp) : Prop :=
  (r.2 = -1 ∨ ∃ u ∈ us, u.1 = c.1 ∧ r.2 ≤ (List.length u.2.2.1 : Int)) ∧ (c.2.2.1 = 4 → r.1 = 200 → ∃ u ∈ us, u.1 = c.1 ∧ u.2.2.2 = true)
theorem told_mono {c : TClient} {r : TResp} {us vs : List TUp} (h : Told c r us) (hl : LeUs us vs) : Told c r vs := by
  refine ⟨h.1.elim .inl fun ⟨u, hu, e, hle⟩ => ?_, fun h4 h2 => ?_⟩
  · obtain ⟨v, hv, hlu⟩ := hl u hu
    have := hlu.len
    exact .inr ⟨v, hv, hlu.id.symm.trans e, by omega⟩
  · obtain ⟨u, hu, e, hd⟩ := h.2 h4 h2
    obtain ⟨v, hv, hlu⟩ := hl u hu
    exact ⟨v, hv, hlu.id.symm.trans e, (hlu.fin hd).1⟩
/-- What serving a client's request makes of a store. -/
def Served (c : TClient) (st st' : TStore) : Prop := st' = st ∨ ∃ r us, RecG r ∧ r.1 = st.2.1 ∧ r.2.1 = st.2.2.1 ∧ st.2.2.1 < (st.1.1.length : Int) ∧ foldOne st.2.2.2 r = some us ∧ r.2.2.1 ≠ 4 ∧ st' = wrote st r us ∧ ∀ u ∈ us, u ∈ st.2.2.2 ∨ (u.1 = c.1 ∧ OkU c.2.1 u)
theorem lenOf_has {st : TStore} {id : ByteArray} (h : upHas st.2.2.2 id = true) : ∃ u ∈ st.2.2.2, u.1 = id ∧ lenOf st id = (List.length u.2.2.1 : Int) ∧ rd kUp st.2.2.2 (upIns st.2.2.2 id : Int) = u := by
  obtain ⟨hlt, e⟩ := upHas_iff.1 h
  refine ⟨_, List.getElem_mem hlt, str_inj e, ?_, rd_nat (k := kUp) (xs := st.2.2.2) hlt⟩
  unfold lenOf
  rw [if_pos h, rd_nat (k := kUp) (xs := st.2.2.2) hlt]
theorem cl_facts {c : TClient} (h : ClG c) : idB c.1 = true ∧ c.2.1.length ≤ 400 ∧ 1 ≤ c.2.2.1 ∧ c.2.2.1 ≤ 5 ∧ 0 ≤ c.2.2.2 ∧ c.2.2.2 ≤ (c.2.1.length : Int) := by
  have h1 := h.ok
  simp only [clientOkB, Bool.and_eq_true, decide_eq_true_eq] at h1
  have := h.lo
  refine ⟨h1.1.1.1, ?_⟩
  omega
theorem serve_one {c : TClient} (hc : ClG c) {st : TStore} (hR : Rt st) (hu : ∀ u ∈ st.2.2.2, u.1 = c.1 → OkU c.2.1 u) {r : TReq} {dat : List Int} (hq : nextReq c = (r, dat, true, ())) :
    Served c st (ansF st r dat).1 ∧ Fits c (ansF st r dat).2 ∧ Told c (ansF st r dat).2 (ansF st r dat).1.2.2.2 := by
  obtain ⟨hid, hlen, h1, h5, o0, o1⟩ := cl_facts hc
  obtain ⟨r5, r200⟩ := rt_bnd hR
  -- what is told of an upload that is there
  have tell : upHas st.2.2.2 c.1 = true → ∃ o : Nat, o ≤ c.2.1.length ∧ lenOf st c.1 = (o : Int) ∧ ∃ u ∈ st.2.2.2, u.1 = c.1 ∧ (o : Int) ≤ (List.length u.2.2.1 : Int) := fun hh => by
    obtain ⟨u, hm, e, hl, _⟩ := lenOf_has hh
    exact ⟨_, (hu u hm e).len, hl, u, hm, e, Int.le_refl _⟩
  unfold nextReq at hq
  rw [hc.ok] at hq
  simp only [Bool.true_eq_false, if_false] at hq
  split at hq
  · rename_i s1
    injection hq with q1 q2
    injection q2 with q2 _
    subst q1; subst q2
    simp only [ansF, if_true]
    have hcode : ∀ k, (makeF st c.1 (c.2.1.length : Int)).2 = k → k = 0 ∨ k = 3 ∧ upHas st.2.2.2 c.1 = true ∨ k = 5 := by
      intro k hk
      unfold makeF at hk
      rw [if_pos ⟨hid, by omega, by omega⟩] at hk
      split at hk
      · rename_i hh; exact .inr (.inl ⟨hk.symm, hh⟩)
      · split at hk
        · exact .inr (.inr hk.symm)
        · exact .inl hk.symm
    by_cases hz : (makeF st c.1 (c.2.1.length : Int)).2 = 0
    · rw [if_pos hz]
      have hz' := hz
      unfold makeF at hz' ⊢
      rw [if_pos ⟨hid, by omega, by omega⟩] at hz' ⊢
      split at hz'
      · simp at hz'
      · rename_i hh
        rw [if_neg hh]
        split at hz'
        · simp at hz'
        · rename_i h10
          rw [if_neg h10]
          have hr := rec_ok hR.g 1 (c.2.1.length : Int) c.1 hid (fun hx => h10 (.inl hx)) (.inl ⟨rfl, by omega, by omega⟩)
          have hf := make_fold (st := st) (id := c.1) (want := (c.2.1.length : Int)) hh (fun hx => h10 (.inr hx))
          refine ⟨.inr ⟨_, _, ⟨hr, byt_nil⟩, rfl, rfl, by omega, hf, by simp, rfl, fun u hm => ?_⟩, .inl ⟨s1, .inl rfl⟩, .inr ⟨(c.1, (c.2.1.length : Int), [], false), ?_, rfl, by simp⟩, fun h4 => by rw [s1] at h4; cases h4⟩
          · rcases List.mem_append.1 hm with hm | hm
            · exact .inl (List.mem_of_mem_take hm)
            · rcases List.mem_cons.1 hm with rfl | hm
              · exact .inr ⟨rfl, rfl, Nat.zero_le _, rfl, fun h => by cases h⟩
              · exact .inl (List.mem_of_mem_drop hm)
          · show _ ∈ _ ++ _ :: _
            simp
    · rw [if_neg hz, makeF_same hz]
      rcases hcode _ rfl with h | ⟨h, hh⟩ | h
      · exact absurd h hz
      · obtain ⟨o, g1, g2, g3⟩ := tell hh
        rw [h]
        have e : codeResp st 3 c.1 = (409, (o : Int)) := by unfold codeResp; rw [if_neg (by omega), if_pos (.inl rfl), g2]
        rw [e]
        exact ⟨.inl rfl, .inl ⟨s1, .inr (.inl ⟨o, g1, rfl⟩)⟩, .inr g3, fun h4 => by rw [s1] at h4; cases h4⟩
      · rw [h]
        have e : codeResp st 5 c.1 = (507, -1) := by unfold codeResp; rw [if_neg (by omega), if_neg (by omega), if_pos rfl]
        rw [e]
        exact ⟨.inl rfl, .inl ⟨s1, .inr (.inr rfl)⟩, .inl rfl, fun h4 => by rw [s1] at h4; cases h4⟩
  · split at hq
    · rename_i s2
      injection hq with q1 q2
      injection q2 with q2 _
      subst q1; subst q2
      simp only [ansF]
      rw [if_neg (by omega), if_neg (by omega), if_neg (by omega), if_neg (by omega)]
      refine ⟨.inl rfl, ?_⟩
      unfold seeF
      simp only
      split
      · rename_i hh
        obtain ⟨o, g1, g2, g3⟩ := tell hh
        rw [if_neg (by simp), g2]
        exact ⟨.inr (.inl ⟨s2, .inr ⟨o, g1, rfl⟩⟩), .inr g3, fun h4 => by rw [s2] at h4; cases h4⟩
      · exact ⟨.inr (.inl ⟨s2, .inl rfl⟩), .inl rfl, fun h4 => by rw [s2] at h4; cases h4⟩
    · split at hq
      · rename_i s3
        injection hq with q1 q2
        injection q2 with q2 _
        subst q1
        have hoff := hc.off s3
        obtain ⟨ho, hoe⟩ : ∃ o : Nat, c.2.2.2 = (o : Int) := ⟨c.2.2.2.toNat, by omega⟩
        rw [hoe, Int.toNat_natCast] at q2
        have hdl : dat.length = min (ho + 24) c.2.1.length - ho := by rw [← q2]; simp [List.length_drop, List.length_take]
        have hbd : Byt dat := by rw [← q2]; exact byt_drop (byt_take hc.byt _) _
        have hpc : nPc dat = 1 := by unfold nPc; omega
        simp only [ansF]
        rw [if_neg (by omega), if_pos trivial]
        have hcode : ∀ k, (putF st c.1 c.2.2.2 dat).2 = k → k = 0 ∨ k = 2 ∨ k = 4 ∧ upHas st.2.2.2 c.1 = true ∨ k = 5 := by
          intro k hk
          unfold putF at hk
          rw [if_pos ⟨hid, by omega, by omega⟩] at hk
          split at hk
          · rename_i hh
            split at hk
            · exact .inr (.inr (.inl ⟨hk.symm, hh⟩))
            · split at hk
              · exact .inr (.inr (.inr hk.symm))
              · exact .inl hk.symm
          · exact .inr (.inl hk.symm)
        by_cases hz : (putF st c.1 c.2.2.2 dat).2 = 0
        · rw [if_pos hz]
          obtain ⟨e1, e2, e3⟩ := putF_len hR hbd hz
          have hz' := hz
          unfold putF at hz' e1 ⊢
          rw [if_pos ⟨hid, by omega, by omega⟩] at hz' e1 ⊢
          split at hz'
          · rename_i hh
            rw [if_pos hh] at e1 ⊢
            split at hz'
            · simp at hz'
            · rename_i h4
              rw [if_neg h4] at e1 ⊢
              split at hz'
              · simp at hz'
              · rename_i hl5
                rw [if_neg hl5] at e1 ⊢
                simp only [hpc] at e1 ⊢
                have hcc := putC_of hR hbd hid (by omega) hh h4 hl5
                obtain ⟨hr, hf, hI⟩ := put_step hcc (putI_0 hcc) (show 0 < nPc dat by omega)
                have hpl : pieceL 24 dat 0 = dat := by unfold pieceL; rw [Nat.zero_mul, Nat.zero_add, List.drop_zero, List.take_of_length_le (by omega)]
                have hnx := hcc.nx
                obtain ⟨u0, hm0, hid0, hl0, hrd0⟩ := lenOf_has hh
                have hok0 := hu u0 hm0 hid0
                have hnd : u0.2.2.2 = false := by have := hcc.nd; rw [hrd0] at this; exact this
                have hat : c.2.2.2 = (List.length u0.2.2.1 : Int) := by rw [e2, hl0]
                -- the upload behind it
                have hnew : OkU c.2.1 (u0.1, u0.2.1, u0.2.2.1 ++ dat, u0.2.2.2) := by
                  refine ⟨hok0.want, ?_, ?_, fun hd => by rw [hnd] at hd; cases hd⟩
                  · simp only [List.length_append]; omega
                  · simp only [List.length_append]
                    have hou : List.length u0.2.2.1 = ho := by omega
                    have hd0 := hok0.dat
                    rw [hou] at hd0
                    rw [hou, hdl]
                    rw [hd0, ← q2]
                    have := List.take_append_drop ho (c.2.1.take (min (ho + 24) c.2.1.length))
                    rw [List.take_take, Nat.min_eq_left (by omega)] at this
                    rw [this]
                    congr 1
                    omega
                have hcat : catUp st.2.2.2 c.1 dat = st.2.2.2.set (upIns st.2.2.2 c.1) (u0.1, u0.2.1, u0.2.2.1 ++ dat, u0.2.2.2) := by unfold catUp; rw [hrd0]
                rw [hpl] at hr hf
                have hmem : ∀ u ∈ catUp st.2.2.2 c.1 dat, u ∈ st.2.2.2 ∨ (u.1 = c.1 ∧ OkU c.2.1 u) := fun u hm => by
                  rw [hcat] at hm
                  rcases List.mem_or_eq_of_mem_set hm with hm | rfl
                  · exact .inl hm
                  · exact .inr ⟨hid0, hnew⟩
                have hput1 : putAt st c.1 c.2.2.2 dat 1 = wrote st (st.2.1, st.2.2.1, 2, c.1, c.2.2.2 + ((0 * 24 : Nat) : Int), dat) (catUp st.2.2.2 c.1 dat) := by
                  show putOne (putAt st c.1 c.2.2.2 dat 0) c.1 _ (pieceL 24 dat 0) = _
                  rw [hpl]; rfl
                rw [hput1]
                refine ⟨.inr ⟨_, _, ⟨hr, hbd⟩, rfl, rfl, by omega, hf, by simp, rfl, hmem⟩, .inr (.inr (.inl ⟨s3, .inl ⟨(c.2.2.2 + (dat.length : Int)).toNat, by omega, .inl ?_⟩⟩)), .inr ?_, fun h4 => by rw [s3] at h4; cases h4⟩
                · rw [Int.toNat_of_nonneg (by omega)]
                · refine ⟨(u0.1, u0.2.1, u0.2.2.1 ++ dat, u0.2.2.2), ?_, hid0, by simp only [List.length_append]; omega⟩
                  show _ ∈ catUp st.2.2.2 c.1 dat
                  rw [hcat]
                  obtain ⟨hlt, _⟩ := upHas_iff.1 hh
                  exact List.mem_iff_getElem.2 ⟨_, by rw [List.length_set]; exact hlt, List.getElem_set_self _⟩
          · simp at hz'
        · rw [if_neg hz, putF_same hz]
          rcases hcode _ rfl with h | h | ⟨h, hh⟩ | h
          · exact absurd h hz
          · rw [h]
            have e : codeResp st 2 c.1 = (404, -1) := by unfold codeResp; rw [if_pos rfl]
            rw [e]
            exact ⟨.inl rfl, .inr (.inr (.inl ⟨s3, .inr (.inl rfl)⟩)), .inl rfl, fun h4 => by rw [s3] at h4; cases h4⟩
          · obtain ⟨o, g1, g2, g3⟩ := tell hh
            rw [h]
            have e : codeResp st 4 c.1 = (409, (o : Int)) := by unfold codeResp; rw [if_neg (by omega), if_pos (.inr rfl), g2]
            rw [e]
            exact ⟨.inl rfl, .inr (.inr (.inl ⟨s3, .inl ⟨o, g1, .inr rfl⟩⟩)), .inr g3, fun h4 => by rw [s3] at h4; cases h4⟩
          · rw [h]
            have e : codeResp st 5 c.1 = (507, -1) := by unfold codeResp; rw [if_neg (by omega), if_neg (by omega), if_pos rfl]
            rw [e]
            exact ⟨.inl rfl, .inr (.inr (.inl ⟨s3, .inr (.inr rfl)⟩)), .inl rfl, fun h4 => by rw [s3] at h4; cases h4⟩
      · split at hq
        · rename_i s4
          injection hq with q1 q2
          injection q2 with q2 _
          subst q1; subst q2
          simp only [ansF]
          rw [if_neg (by omega), if_neg (by omega), if_pos trivial]
          have hcrc : ∀ u ∈ st.2.2.2, u.1 = c.1 → ¬ (List.length u.2.2.1 : Int) < u.2.1 → u.2.2.1 = c.2.1 := fun u hm e hl => by
            have hk := hu u hm e
            have h7 := hk.want
            have h8 := hk.len
            have h9 := hk.dat
            rw [List.take_of_length_le (by omega)] at h9
            exact h9
          have hcode : ∀ k, (doneF st c.1 ((crcL c.2.1 ^^^ 4294967295 : Nat) : Int)).2 = k → (k = 0 ∧ ∃ u ∈ (doneF st c.1 ((crcL c.2.1 ^^^ 4294967295 : Nat) : Int)).1.2.2.2, u.1 = c.1 ∧ u.2.2.2 = true) ∨ k = 2 ∨ k = 4 ∧ upHas st.2.2.2 c.1 = true ∨ k = 5 := by
            intro k hk
            unfold doneF at hk ⊢
            rw [if_pos hid] at hk ⊢
            split at hk
            · rename_i hh
              obtain ⟨u0, hm0, hid0, hl0, hrd0⟩ := lenOf_has hh
              rw [if_pos hh]
              rw [hrd0] at hk ⊢
              split at hk
              · exact .inr (.inr (.inl ⟨hk.symm, hh⟩))
              · rename_i hl
                rw [if_neg hl]
                have hfd := hcrc u0 hm0 hid0 hl
                rw [hfd] at hk ⊢
                simp only [ne_eq, not_true_eq_false, if_false] at hk ⊢
                split at hk
                · rename_i hd
                  rw [if_pos hd]
                  exact .inl ⟨hk.symm, u0, hm0, hid0, hd⟩
                · rename_i hd
                  rw [if_neg hd]
                  split at hk
                  · exact .inr (.inr (.inr hk.symm))
                  · rename_i hle
                    rw [if_neg hle]
                    refine .inl ⟨hk.symm, (u0.1, u0.2.1, c.2.1, true), ?_, hid0, rfl⟩
                    obtain ⟨hlt, _⟩ := upHas_iff.1 hh
                    show _ ∈ List.set _ _ _
                    exact List.mem_iff_getElem.2 ⟨_, by rw [List.length_set]; exact hlt, List.getElem_set_self _⟩
            · exact .inr (.inl hk.symm)
          by_cases hz : (doneF st c.1 ((crcL c.2.1 ^^^ 4294967295 : Nat) : Int)).2 = 0
          · rw [if_pos hz]
            rcases hcode _ rfl with ⟨_, hd⟩ | h | ⟨h, _⟩ | h
            · refine ⟨?_, .inr (.inr (.inr ⟨s4, .inl rfl⟩)), .inl rfl, fun _ _ => hd⟩
              have hz' := hz
              unfold doneF at hz' ⊢
              rw [if_pos hid] at hz' ⊢
              split at hz'
              · rename_i hh
                rw [if_pos hh]
                split at hz'
                · simp at hz'
                · rename_i hl
                  rw [if_neg hl]
                  split at hz'
                  · simp at hz'
                  · rename_i hcr
                    rw [if_neg hcr]
                    split at hz'
                    · rename_i hd
                      rw [if_pos hd]
                      exact .inl rfl
                    · rename_i hd
                      rw [if_neg hd]
                      split at hz'
                      · simp at hz'
                      · rename_i hle
                        rw [if_neg hle]
                        have hr := rec_ok hR.g 3 0 c.1 hid hle (.inr ⟨.inl rfl, rfl⟩)
                        have hf := done_fold hR.up hh hl hd
                        obtain ⟨u0, hm0, hid0, hl0, hrd0⟩ := lenOf_has hh
                        have hok0 := hu u0 hm0 hid0
                        refine .inr ⟨_, _, ⟨hr, byt_nil⟩, rfl, rfl, by omega, hf, by simp, rfl, fun u hm => ?_⟩
                        rw [hrd0] at hm hl
                        rcases List.mem_or_eq_of_mem_set hm with hm | rfl
                        · exact .inl hm
                        · have h7 := hok0.want
                          have h8 := hok0.len
                          exact .inr ⟨hid0, hok0.want, hok0.len, hok0.dat, fun _ => by show List.length u0.2.2.1 = _; omega⟩
              · simp at hz'
            · rw [h] at hz; cases hz
            · rw [h] at hz; cases hz
            · rw [h] at hz; cases hz
          · rw [if_neg hz, doneF_same hz]
            rcases hcode _ rfl with ⟨h, _⟩ | h | ⟨h, hh⟩ | h
            · exact absurd h hz
            · rw [h]
              have e : codeResp st 2 c.1 = (404, -1) := by unfold codeResp; rw [if_pos rfl]
              rw [e]
              exact ⟨.inl rfl, .inr (.inr (.inr ⟨s4, .inr (.inl rfl)⟩)), .inl rfl, fun _ h2 => by cases h2⟩
            · obtain ⟨o, g1, g2, g3⟩ := tell hh
              rw [h]
              have e : codeResp st 4 c.1 = (409, (o : Int)) := by unfold codeResp; rw [if_neg (by omega), if_pos (.inr rfl), g2]
              rw [e]
              exact ⟨.inl rfl, .inr (.inr (.inr ⟨s4, .inr (.inr (.inl ⟨o, g1, rfl⟩))⟩)), .inr g3, fun _ h2 => by cases h2⟩
            · rw [h]
              have e : codeResp st 5 c.1 = (507, -1) := by unfold codeResp; rw [if_neg (by omega), if_neg (by omega), if_pos rfl]
              rw [e]
              exact ⟨.inl rfl, .inr (.inr (.inr ⟨s4, .inr (.inr (.inr rfl))⟩)), .inl rfl, fun _ h2 => by cases h2⟩
        · unfold noReq at hq
          injection hq with _ hq
          injection hq with _ hq
          injection hq with hq _
          cases hq
/-- What a client is behind an answer that may come. -/
theorem hear_good {c : TClient} (hc : ClG c) {r : TResp} (hf : Fits c r) : ClG (hear c r) ∧ (hear c r).1 = c.1 ∧ (hear c r).2.1 = c.2.1 ∧ ((hear c r).2.2.1 = 5 → c.2.2.1 = 4 ∧ r.1 = 200) ∧ overB c = false := by
  obtain ⟨hid, hlen, h1, h5, o0, o1⟩ := cl_facts hc
  have mk : ∀ (s o : Int), 1 ≤ s → s ≤ 5 → 0 ≤ o → o ≤ (c.2.1.length : Int) → (s = 3 → o < (c.2.1.length : Int)) → ClG (c.1, c.2.1, s, o) := fun s o g1 g2 g3 g4 g5 => by
    refine ⟨?_, by show s ≠ 6; omega, hc.byt, g5⟩
    simp only [clientOkB, Bool.and_eq_true, decide_eq_true_eq]
    refine ⟨⟨⟨hid, by omega⟩, by omega⟩, by omega⟩
  have far_ok : ∀ o : Nat, o ≤ c.2.1.length → ClG (far c (o : Int)) ∧ (far c (o : Int)).1 = c.1 ∧ (far c (o : Int)).2.1 = c.2.1 ∧ (far c (o : Int)).2.2.1 ≠ 5 := fun o ho => by
    unfold far
    rw [if_pos ⟨by omega, by omega⟩]
    split
    · exact ⟨mk 4 _ (by omega) (by omega) (by omega) (by omega) (fun h => by cases h), rfl, rfl, by simp⟩
    · exact ⟨mk 3 _ (by omega) (by omega) (by omega) (by omega) (fun _ => by omega), rfl, rfl, by simp⟩
  have ov : ∀ s : Int, c.2.2.1 = s → s ≠ 5 → s ≠ 6 → overB c = false := fun s e n5 n6 => by
    unfold overB
    rw [e, dec_false n5, dec_false n6]
    rfl
  have stay : ∀ (st o : Int) (s : Int), nextStep c.2.2.1 st = s → s ≠ 0 → s ≠ 5 → 1 ≤ s → s ≤ 4 → (s = 3 → c.2.2.2 < (c.2.1.length : Int)) → ClG (hear c (st, o)) ∧ (hear c (st, o)).1 = c.1 ∧ (hear c (st, o)).2.1 = c.2.1 ∧ (hear c (st, o)).2.2.1 ≠ 5 := fun st o s e n0 n5 g1 g2 g3 => by
    unfold hear
    simp only [e]
    rw [if_neg n0]
    exact ⟨mk s _ g1 (by omega) o0 o1 g3, rfl, rfl, n5⟩
  have goFar : ∀ (st : Int) (o : Nat), nextStep c.2.2.1 st = 0 → o ≤ c.2.1.length → ClG (hear c (st, (o : Int))) ∧ (hear c (st, (o : Int))).1 = c.1 ∧ (hear c (st, (o : Int))).2.1 = c.2.1 ∧ (hear c (st, (o : Int))).2.2.1 ≠ 5 := fun st o e ho => by
    unfold hear
    simp only [e]
    exact far_ok o ho
  have fin : ∀ {r : TResp}, (ClG (hear c r) ∧ (hear c r).1 = c.1 ∧ (hear c r).2.1 = c.2.1 ∧ (hear c r).2.2.1 ≠ 5) → overB c = false → ClG (hear c r) ∧ (hear c r).1 = c.1 ∧ (hear c r).2.1 = c.2.1 ∧ ((hear c r).2.2.1 = 5 → c.2.2.1 = 4 ∧ r.1 = 200) ∧ overB c = false := fun h ho => ⟨h.1, h.2.1, h.2.2.1, fun e => absurd e h.2.2.2, ho⟩
  rcases hf with ⟨s, h | ⟨o, ho, h⟩ | h⟩ | ⟨s, h | ⟨o, ho, h⟩⟩ | ⟨s, ⟨o, ho, h | h⟩ | h | h⟩ | ⟨s, h | h | ⟨o, ho, h⟩ | h⟩ <;> subst h
  · exact fin (goFar 201 0 (by rw [s]; rfl) (Nat.zero_le _)) (ov _ s (by omega) (by omega))
  · exact fin (stay 409 _ 2 (by rw [s]; rfl) (by omega) (by omega) (by omega) (by omega) (fun h => by cases h)) (ov _ s (by omega) (by omega))
  · exact fin (stay 507 _ 1 (by rw [s]; rfl) (by omega) (by omega) (by omega) (by omega) (fun h => by cases h)) (ov _ s (by omega) (by omega))
  · exact fin (stay 404 _ 1 (by rw [s]; rfl) (by omega) (by omega) (by omega) (by omega) (fun h => by cases h)) (ov _ s (by omega) (by omega))
  · exact fin (goFar 200 o (by rw [s]; rfl) ho) (ov _ s (by omega) (by omega))
  · exact fin (goFar 204 o (by rw [s]; rfl) ho) (ov _ s (by omega) (by omega))
  · exact fin (goFar 409 o (by rw [s]; rfl) ho) (ov _ s (by omega) (by omega))
  · exact fin (stay 404 _ 1 (by rw [s]; rfl) (by omega) (by omega) (by omega) (by omega) (fun h => by cases h)) (ov _ s (by omega) (by omega))
  · exact fin (stay 507 _ 3 (by rw [s]; rfl) (by omega) (by omega) (by omega) (by omega) (fun _ => hc.off s)) (ov _ s (by omega) (by omega))
  · refine ⟨?_, ?_, ?_, fun _ => ⟨s, rfl⟩, ov _ s (by omega) (by omega)⟩
    · have e : hear c (200, -1) = (c.1, c.2.1, 5, c.2.2.2) := by unfold hear; rw [s]; rfl
      rw [e]
      exact mk 5 _ (by omega) (by omega) o0 o1 (fun h => by cases h)
    · unfold hear; rw [s]; rfl
    · unfold hear; rw [s]; rfl
  · exact fin (stay 404 _ 1 (by rw [s]; rfl) (by omega) (by omega) (by omega) (by omega) (fun h => by cases h)) (ov _ s (by omega) (by omega))
  · exact fin (stay 409 _ 2 (by rw [s]; rfl) (by omega) (by omega) (by omega) (by omega) (fun h => by cases h)) (ov _ s (by omega) (by omega))
  · exact fin (stay 507 _ 4 (by rw [s]; rfl) (by omega) (by omega) (by omega) (by omega) (fun h => by cases h)) (ov _ s (by omega) (by omega))
theorem cut_good {c : TClient} (hc : ClG c) : ClG (cutOff c) ∧ (cutOff c).1 = c.1 ∧ (cutOff c).2.1 = c.2.1 ∧ ((cutOff c).2.2.1 = 5 → c.2.2.1 = 5) := by
  obtain ⟨hid, hlen, h1, h5, o0, o1⟩ := cl_facts hc
  unfold cutOff
  split
  · refine ⟨⟨?_, by show (2 : Int) ≠ 6; omega, hc.byt, fun h => by cases h⟩, rfl, rfl, fun h => by cases h⟩
    simp only [clientOkB, Bool.and_eq_true, decide_eq_true_eq]
    refine ⟨⟨⟨hid, by omega⟩, by omega⟩, by omega⟩
  · exact ⟨hc, rfl, rfl, fun h => h⟩

abbrev knClI : K := (.pair .str (.pair (.rs 5 (.int .u8)) kResp))
abbrev knWantI : K := (.pair (.int .i64) (.pair kReq (.rs 5 (.int .u8))))
theorem rd_at (k : K) {xs : List k.T} {i : Nat} {x : k.T} (h : xs[i]? = some x) : rd k xs (i : Int) = x := by
  obtain ⟨hi, e⟩ := List.getElem?_eq_some_iff.1 h
  rw [rd_nat (k := k) hi, e]
def cW (i : Nat) (l : List TWant) : Nat := l.countP fun a => decide (a.1 = (i : Int))
def cH (i : Nat) (l : List THeld) : Nat := l.countP fun a => decide (a.1 = (i : Int))
structure WI (k c : Nat) (uc : List TUp) (st : TStore) (held : List THeld) (cls : List TClient) (busy : List Bool) (asks : List TWant) (tells : List THeld) (best : List Int) : Prop where
  dur : Dur st c
  ep : st.2.1 ≤ (k : Int)
  nd : ∀ r ∈ scanL st.1.1, r.2.2.1 ≠ 4
  fuc : foldAll [] ((scanL st.1.1).take c) = some uc
  n6 : cls.length ≤ 6
  lb : busy.length = cls.length
  lt : best.length = cls.length
  dist : ∀ (i j : Nat) (a b : TClient), cls[i]? = some a → cls[j]? = some b → a.1 = b.1 → i = j
  cl : ∀ (i : Nat) (a : TClient), cls[i]? = some a → ClG a
  cnt : ∀ (i : Nat) b, busy[i]? = some b → cW i asks + cH i held + cH i tells = if b = true then 1 else 0
  dn : ∀ (i : Nat) (a : TClient), cls[i]? = some a → a.2.2.1 = 5 → busy[i]? = some false
  ask : ∀ a ∈ asks, ∃ (i : Nat) (cl : TClient), cls[i]? = some cl ∧ a.1 = (i : Int) ∧ nextReq cl = (a.2.1, a.2.2, true, ())
  hld : ∀ h ∈ held, ∃ (i : Nat) (cl : TClient), cls[i]? = some cl ∧ h.1 = (i : Int) ∧ Fits cl h.2 ∧ Told cl h.2 st.2.2.2
  tell : ∀ h ∈ tells, ∃ (i : Nat) (cl : TClient), cls[i]? = some cl ∧ h.1 = (i : Int) ∧ Fits cl h.2 ∧ Told cl h.2 uc
  bst : ∀ (i : Nat) (a : TClient) (b : Int), cls[i]? = some a → best[i]? = some b → b = -1 ∨ ∃ u ∈ uc, u.1 = a.1 ∧ b ≤ (List.length u.2.2.1 : Int)
  ends : ∀ (i : Nat) (a : TClient), cls[i]? = some a → a.2.2.1 = 5 → ∃ u ∈ uc, u.1 = a.1 ∧ u.2.2.2 = true
  oku : ∀ u ∈ st.2.2.2, ∃ (i : Nat) (a : TClient), cls[i]? = some a ∧ u.1 = a.1 ∧ OkU a.2.1 u
  la : asks.length ≤ 60
  l6 : tells.length ≤ 60
  lh : held.length ≤ 200
def WIw (k : Nat) (w : TWorld) : Prop := ∃ c uc, WI k c uc w.1.1 w.1.2 w.2.1 w.2.2.1 w.2.2.2.1 w.2.2.2.2.1 w.2.2.2.2.2
theorem wiw {k c : Nat} {uc : List TUp} {st : TStore} {held cls busy asks tells best} (h : WI k c uc st held cls busy asks tells best) : WIw k (((st, held), (cls, (busy, (asks, (tells, best))))) : TWorld) := ⟨c, uc, h⟩
theorem wi_uc {k c : Nat} {uc : List TUp} {st : TStore} {held cls busy asks tells best} (h : WI k c uc st held cls busy asks tells best) : LeUs uc st.2.2.2 := by
  have h1 := h.dur.g.up
  rw [← List.take_length (l := scanL st.1.1)] at h1
  exact fold_mono h.dur.le h.fuc h1 h.nd
/-- An element taken out. -/
def rm {α : Type} (l : List α) (j : Nat) : List α := l.take j ++ l.drop (j + 1)
theorem rm_split {α : Type} {l : List α} {j : Nat} {a : α} (h : l[j]? = some a) : l = l.take j ++ a :: l.drop (j + 1) := by
  obtain ⟨hj, e⟩ := List.getElem?_eq_some_iff.1 h
  rw [← e, ← List.drop_eq_getElem_cons hj, List.take_append_drop]
theorem rm_count {α : Type} (p : α → Bool) {l : List α} {j : Nat} {a : α} (h : l[j]? = some a) : l.countP p = (rm l j).countP p + (if p a = true then 1 else 0) := by
  conv => lhs; rw [rm_split h]
  unfold rm
  rw [List.countP_append, List.countP_append, List.countP_cons]
  omega
theorem rm_mem {α : Type} {l : List α} {j : Nat} {x : α} (h : x ∈ rm l j) : x ∈ l := (List.mem_append.1 h).elim List.mem_of_mem_take List.mem_of_mem_drop
theorem rm_len {α : Type} {l : List α} {j : Nat} (h : j < l.length) : (rm l j).length + 1 = l.length := by
  simp only [rm, List.length_append, List.length_take, List.length_drop]
  omega
theorem set_get {α : Type} {l : List α} {i j : Nat} {v x : α} (h : (l.set i v)[j]? = some x) : (j = i ∧ x = v) ∨ (j ≠ i ∧ l[j]? = some x) := by
  rw [List.getElem?_set] at h
  split at h
  · rename_i e
    split at h
    · injection h with h
      exact .inl ⟨e.symm, h.symm⟩
    · cases h
  · rename_i e
    exact .inr ⟨fun x => e x.symm, h⟩
theorem count_zero {α : Type} {p : α → Bool} {l : List α} (h : l.countP p = 0) {a : α} (ha : a ∈ l) : ¬ p a = true := List.countP_eq_zero.1 h a ha
theorem wi_good {k c : Nat} {uc : List TUp} {st : TStore} {held cls busy asks tells best} (h : WI k c uc st held cls busy asks tells best) : Rt st ∧ StoreS st ∧ P_s_StoreOk st = some (true, ()) := by
  obtain ⟨a, b, c, _⟩ := good_all h.dur.g
  exact ⟨a, b, c⟩
theorem cl_size {a : TClient} (h : ClG a) : a.1.size ≤ maxLen := by
  obtain ⟨h1, _⟩ := cl_facts h
  have : a.1.size ≤ 8 := by simp only [idB, Bool.and_eq_true, decide_eq_true_eq] at h1; omega
  simp only [maxLen]; omega
theorem do_send (k : Nat) (w : TWorld) (h : WIw k w) (i : Int) (hi : i < 9223372036854775807) : ∃ b w', P_s_l18Send_W w i = some (b, w', ()) ∧ WIw k w' := by
  obtain ⟨⟨st, held⟩, cls, busy, asks, tells, best⟩ := w
  obtain ⟨c, uc, h⟩ := h
  simp only at h
  have hn := h.n6
  have hlb := h.lb
  have same : WIw k (((st, held), (cls, (busy, (asks, (tells, best))))) : TWorld) := ⟨c, uc, h⟩
  simp only [P_s_l18Send_W, B_s_l18Send_W, l1In_eq, bO]
  rw [w64 (n := (cls.length : Int) - 1) (by omega) (by omega)]
  by_cases hr : 0 ≤ i ∧ i ≤ (cls.length : Int) - 1
  · obtain ⟨i, rfl⟩ : ∃ j : Nat, i = (j : Int) := ⟨i.toNat, by omega⟩
    have hic : i < cls.length := by omega
    obtain ⟨cl, hcl⟩ : ∃ x, cls[i]? = some x := ⟨_, List.getElem?_eq_getElem hic⟩
    obtain ⟨b, hb⟩ : ∃ x, busy[i]? = some x := ⟨_, List.getElem?_eq_getElem (by omega)⟩
    have hg := h.cl i cl hcl
    rw [dec_true hr, dec_true (show (0 : Int) ≤ (i : Int) by omega), dec_true (show (i : Int) < (busy.length : Int) by omega), dec_true (show (i : Int) < (cls.length : Int) by omega), rd_at .bool hb, rd_at knClI hcl, s_NextReq_eq cl (cl_size hg) hg.byt]
    simp only [Bool.not_true, cond_false, cond_true]
    cases b with
    | true => exact ⟨false, _, rfl, same⟩
    | false =>
      simp only [cond_false]
      by_cases h60 : (asks.length : Int) = 60
      · rw [dec_true h60]; exact ⟨false, _, rfl, same⟩
      · rw [dec_false h60]
        have hla := h.la
        simp only [cond_false, bindS, bO]
        generalize hq : nextReq cl = q
        obtain ⟨r, dat, ok, u⟩ := q
        cases ok with
        | false => exact ⟨false, _, rfl, same⟩
        | true =>
          simp only [Bool.not_true, cond_false]
          rw [dec_true (by simp; omega), dec_true (by simp; omega)]
          refine ⟨true, _, rfl, wiw (c := c) (uc := uc) ?_⟩
          have hpend := h.cnt i false hb
          simp only [Bool.false_eq_true, if_false] at hpend
          have hcount : ∀ j : Nat, cW j (asks ++ [((i : Int), (r, dat))]) = cW j asks + if j = i then 1 else 0 := fun j => by
            unfold cW
            rw [List.countP_append, List.countP_singleton]
            by_cases hji : j = i
            · subst hji; simp
            · rw [if_neg hji]; simp; omega
          have hs5 : cl.2.2.1 ≠ 5 := fun e => by
            unfold nextReq at hq
            rw [hg.ok, e] at hq
            simp [noReq] at hq
          refine { h with lb := ?_, cnt := ?_, dn := ?_, ask := ?_, la := ?_ }
          · simp only [List.length_set]; exact h.lb
          · intro j b' hb'
            rw [hcount j]
            rw [Int.toNat_natCast] at hb'
            rcases set_get hb' with ⟨rfl, rfl⟩ | ⟨hne, hb'⟩
            · rw [if_pos rfl, if_pos rfl]; omega
            · have := h.cnt j b' hb'
              rw [if_neg hne]; omega
          · intro j a ha h5
            rw [Int.toNat_natCast, List.getElem?_set_ne (fun e => ?_)]
            · exact h.dn j a ha h5
            · subst e
              rw [hcl] at ha
              injection ha with ha
              rw [ha] at hs5
              exact hs5 h5
          · intro a ha
            rcases List.mem_append.1 ha with ha | ha
            · exact h.ask a ha
            · rw [List.mem_singleton.1 ha]
              exact ⟨i, cl, hcl, rfl, hq⟩
          · simp only [List.length_append, List.length_cons, List.length_nil]; omega
  · rw [dec_false hr]
    exact ⟨false, _, rfl, same⟩
theorem do_serve (k : Nat) (w : TWorld) (h : WIw k w) (j : Int) (hj : j < 9223372036854775807) : ∃ b w', P_s_l18Serve_W w j = some (b, w', ()) ∧ WIw k w' := by
  obtain ⟨⟨st, held⟩, cls, busy, asks, tells, best⟩ := w
  obtain ⟨c, uc, h⟩ := h
  simp only at h
  have hn := h.n6
  have hla := h.la
  have hlh := h.lh
  have same : WIw k (((st, held), (cls, (busy, (asks, (tells, best))))) : TWorld) := ⟨c, uc, h⟩
  simp only [P_s_l18Serve_W, B_s_l18Serve_W, l1In_eq, bO]
  rw [w64 (n := (asks.length : Int) - 1) (by omega) (by omega)]
  by_cases hr : 0 ≤ j ∧ j ≤ (asks.length : Int) - 1
  · obtain ⟨j, rfl⟩ : ∃ q : Nat, j = (q : Int) := ⟨j.toNat, by omega⟩
    have hjl : j < asks.length := by omega
    rw [dec_true hr]
    simp only [Bool.not_true, cond_false]
    by_cases h200 : (held.length : Int) = 200
    · rw [dec_true h200]; exact ⟨false, _, rfl, same⟩
    rw [dec_false h200]
    obtain ⟨a, ha⟩ : ∃ x, asks[j]? = some x := ⟨_, List.getElem?_eq_getElem hjl⟩
    obtain ⟨i, cl, hcl, hai, hq⟩ := h.ask a (List.mem_of_getElem? ha)
    have hg := h.cl i cl hcl
    obtain ⟨hR, hS, hok⟩ := wi_good h
    have huc := wi_uc h
    simp only [cond_false, bindS]
    rw [rd_at knWantI ha, w64 (n := (j : Int) + 1) (by omega) (by omega), dec_true (show (0 : Int) ≤ (j : Int) by omega), dec_true (show (j : Int) < (asks.length : Int) by omega), dec_true (show (j : Int) ≤ (asks.length : Int) by omega),
      dec_true (show (0 : Int) ≤ (j : Int) + 1 by omega), dec_true (show (j : Int) + 1 ≤ (asks.length : Int) by omega), dec_true (by simp; omega), dec_true (by simp; omega), dec_true (by simp; omega), dec_true (by simp; omega)]
    simp only [cond_true]
    have hdat : Byt a.2.2 ∧ List.length a.2.2 ≤ 1048576 := by
      obtain ⟨_, h400, _⟩ := cl_facts hg
      have hl := nextReq_len cl
      rw [hq] at hl
      refine ⟨?_, by have : List.length a.2.2 ≤ cl.2.1.length := hl; omega⟩
      have hbb : Byt (nextReq cl).2.1 := by
        unfold nextReq noReq
        repeat' split
        all_goals first | exact byt_nil | exact byt_drop (byt_take hg.byt _) _
      rw [hq] at hbb
      exact hbb
    have hreq : a.2.1.2.1.size ≤ maxLen ∧ (-9223372036854775808 ≤ a.2.1.2.2 ∧ a.2.1.2.2 ≤ 9223372036854775807) := by
      obtain ⟨_, h400, _, _, o0, o1⟩ := cl_facts hg
      have hcs := cl_size hg
      have hcrc := crcL_lt hg.byt
      have hx : crcL cl.2.1 ^^^ 4294967295 < 2 ^ 32 := Nat.xor_lt_two_pow hcrc (by omega)
      have e : (nextReq cl).1.2.1.size ≤ maxLen ∧ (-9223372036854775808 ≤ (nextReq cl).1.2.2 ∧ (nextReq cl).1.2.2 ≤ 9223372036854775807) := by
        unfold nextReq noReq
        repeat' split
        all_goals first | exact ⟨hcs, by simp only; omega⟩ | exact ⟨Nat.zero_le _, by simp only; omega⟩
      rw [hq] at e
      exact e
    have hdo := s_does_eq st a.2.1 a.2.2 hreq.1 hR hS hok hdat.1 hdat.2 hreq.2
    have hdo' : P_s_l15Does_r99_0 ((st.1.1, st.1.2), (st.2.1, (st.2.2.1, st.2.2.2))) a.2.1 a.2.2 = _ := hdo
    rw [hdo]
    simp only [bO]
    rw [dec_true (by simp; omega), dec_true (by simp; omega)]
    have hser := serve_one hg hR (fun u hu e => by
      obtain ⟨i', a', h1, h2, h3⟩ := h.oku u hu
      have := h.dist i' i a' cl h1 hcl (by rw [← h2, e])
      subst this
      rw [hcl] at h1; injection h1 with h1; rw [h1]; exact h3) hq
    generalize ansF st a.2.1 a.2.2 = ans at hser ⊢
    obtain ⟨st', resp⟩ := ans
    obtain ⟨hsv, hfit, htold⟩ := hser
    simp only at hsv hfit htold
    refine ⟨true, _, rfl, wiw (c := c) (uc := uc) ?_⟩
    -- the store behind it
    have hst : Dur st' c ∧ st'.2.1 = st.2.1 ∧ (∀ r ∈ scanL st'.1.1, r.2.2.1 ≠ 4) ∧ (scanL st'.1.1).take c = (scanL st.1.1).take c ∧ LeUs st.2.2.2 st'.2.2.2 ∧ ∀ u ∈ st'.2.2.2, u ∈ st.2.2.2 ∨ (u.1 = cl.1 ∧ OkU cl.2.1 u) := by
      rcases hsv with rfl | ⟨r, us, g1, g2, g3, g4, g5, g6, rfl, g7⟩
      · exact ⟨h.dur, rfl, h.nd, rfl, leUs_refl _, fun u hu => .inl hu⟩
      · have hsc := (good_wrote h.dur.g g1 g2 g3 g4 g5).2
        refine ⟨dur_wrote h.dur g1 g2 g3 g4 g5, rfl, fun x hx => ?_, ?_, foldOne_le g5 g6, g7⟩
        · rw [hsc] at hx
          rcases List.mem_append.1 hx with hx | hx
          · exact h.nd x hx
          · rw [List.mem_singleton.1 hx]; exact g6
        · rw [hsc, List.take_append_of_le_length h.dur.le]
    obtain ⟨k1, k2, k3, k4, k5, k6⟩ := hst
    have hrm : ([] ++ (asks.take (j : Int).toNat).drop 0) ++ (asks.take asks.length).drop ((j : Int) + 1).toNat = rm asks j := by
      unfold rm
      rw [Int.toNat_natCast, show ((j : Int) + 1).toNat = j + 1 by omega, List.drop_zero, List.take_length]
      rfl
    simp only [hrm]
    have hcn : ∀ i' : Nat, cW i' asks = cW i' (rm asks j) + if (i' : Int) = a.1 then 1 else 0 := fun i' => by
      have := rm_count (fun x : TWant => decide (x.1 = (i' : Int))) ha
      unfold cW
      rw [this]
      by_cases e : (i' : Int) = a.1
      · rw [if_pos e, if_pos (by simp [e])]
      · rw [if_neg e, if_neg (by simp; omega)]
    have hch : ∀ i' : Nat, cH i' (held ++ [(a.1, resp)]) = cH i' held + if (i' : Int) = a.1 then 1 else 0 := fun i' => by
      unfold cH
      rw [List.countP_append, List.countP_singleton]
      by_cases e : (i' : Int) = a.1
      · rw [if_pos e, if_pos (by simp [e])]
      · rw [if_neg e, if_neg (by simp; omega)]
    refine { h with dur := k1, ep := by rw [k2]; exact h.ep, nd := k3, fuc := by rw [k4]; exact h.fuc, cnt := ?_, ask := ?_, hld := ?_, oku := ?_, la := ?_, lh := ?_ }
    · intro i' b hb
      have := h.cnt i' b hb
      have h1 := hcn i'
      have h2 := hch i'
      omega
    · exact fun x hx => h.ask x (rm_mem hx)
    · intro x hx
      rcases List.mem_append.1 hx with hx | hx
      · obtain ⟨i', a', h1, h2, h3, h4⟩ := h.hld x hx
        exact ⟨i', a', h1, h2, h3, told_mono h4 k5⟩
      · rw [List.mem_singleton.1 hx]
        exact ⟨i, cl, hcl, hai, hfit, htold⟩
    · intro u hu
      rcases k6 u hu with hu | ⟨e, hu⟩
      · exact h.oku u hu
      · exact ⟨i, cl, hcl, e, hu⟩
    · have := rm_len hjl; omega
    · simp only [List.length_append, List.length_cons, List.length_nil]; omega
  · rw [dec_false hr]
    exact ⟨false, _, rfl, same⟩
theorem do_sync (k : Nat) (w : TWorld) (h : WIw k w) : ∃ b w', P_s_l18Sync w = some (b, w', ()) ∧ WIw k w' := by
  obtain ⟨⟨st, held⟩, cls, busy, asks, tells, best⟩ := w
  obtain ⟨c, uc, h⟩ := h
  simp only at h
  have hl6 := h.l6
  have hlh := h.lh
  have same : WIw k (((st, held), (cls, (busy, (asks, (tells, best))))) : TWorld) := ⟨c, uc, h⟩
  obtain ⟨hR, hS, hok⟩ := wi_good h
  have huc := wi_uc h
  simp only [P_s_l18Sync, B_s_l18Sync]
  rw [w64 (n := (tells.length : Int) + (held.length : Int)) (by omega) (by omega)]
  by_cases h60 : (tells.length : Int) + (held.length : Int) > 60
  · rw [dec_true h60]; exact ⟨false, _, rfl, same⟩
  · rw [dec_false h60, dec_true (by omega), dec_true (by omega), s_flush_eq st.1 hS.1]
    simp only [cond_false, cond_true, bO]
    refine ⟨true, _, rfl, wiw (c := (scanL st.1.1).length) (uc := st.2.2.2) ?_⟩
    have hup := h.dur.g.up
    have hd := synced_dur h.dur.g
    refine { h with dur := hd, fuc := by show foldAll [] ((scanL st.1.1).take (scanL st.1.1).length) = _; rw [List.take_length]; exact hup, cnt := ?_, hld := fun x hx => by (cases hx), tell := ?_, bst := ?_, ends := ?_, l6 := ?_, lh := by simp }
    · intro i b hb
      have := h.cnt i b hb
      have e : cH i (tells ++ held) = cH i tells + cH i held := List.countP_append
      rw [e]
      have e0 : cH i ([] : List THeld) = 0 := rfl
      rw [e0]
      omega
    · intro x hx
      rcases List.mem_append.1 hx with hx | hx
      · obtain ⟨i, a, h1, h2, h3, h4⟩ := h.tell x hx
        exact ⟨i, a, h1, h2, h3, told_mono h4 huc⟩
      · exact h.hld x hx
    · intro i a b ha hb
      rcases h.bst i a b ha hb with h1 | ⟨u, hu, e, hle⟩
      · exact .inl h1
      · obtain ⟨v, hv, hlu⟩ := huc u hu
        have := hlu.len
        exact .inr ⟨v, hv, hlu.id.symm.trans e, by omega⟩
    · intro i a ha h5
      obtain ⟨u, hu, e, hd⟩ := h.ends i a ha h5
      obtain ⟨v, hv, hlu⟩ := huc u hu
      exact ⟨v, hv, hlu.id.symm.trans e, (hlu.fin hd).1⟩
    · simp only [List.length_append]; omega
theorem do_tell (k : Nat) (w : TWorld) (h : WIw k w) (j : Int) (hj : j < 9223372036854775807) : ∃ b w', P_s_l18Tell_W w j = some (b, w', ()) ∧ WIw k w' := by
  obtain ⟨⟨st, held⟩, cls, busy, asks, tells, best⟩ := w
  obtain ⟨c, uc, h⟩ := h
  simp only at h
  have hn := h.n6
  have hl6 := h.l6
  have hlb := h.lb
  have hlt := h.lt
  have same : WIw k (((st, held), (cls, (busy, (asks, (tells, best))))) : TWorld) := ⟨c, uc, h⟩
  simp only [P_s_l18Tell_W, B_s_l18Tell_W, l1In_eq, bO]
  rw [w64 (n := (tells.length : Int) - 1) (by omega) (by omega)]
  by_cases hr : 0 ≤ j ∧ j ≤ (tells.length : Int) - 1
  · obtain ⟨j, rfl⟩ : ∃ q : Nat, j = (q : Int) := ⟨j.toNat, by omega⟩
    have hjl : j < tells.length := by omega
    obtain ⟨a, ha⟩ : ∃ x, tells[j]? = some x := ⟨_, List.getElem?_eq_getElem hjl⟩
    obtain ⟨i, cl, hcl, hai, hfit, htold⟩ := h.tell a (List.mem_of_getElem? ha)
    have hg := h.cl i cl hcl
    have hic : i < cls.length := (List.getElem?_eq_some_iff.1 hcl).1
    obtain ⟨b, hb⟩ : ∃ x, busy[i]? = some x := ⟨_, List.getElem?_eq_getElem (show i < busy.length by omega)⟩
    obtain ⟨bt0, hbt⟩ : ∃ x, best[i]? = some x := ⟨_, List.getElem?_eq_getElem (show i < best.length by omega)⟩
    have hct : ∀ i' : Nat, cH i' tells = cH i' (rm tells j) + if (i' : Int) = a.1 then 1 else 0 := fun i' => by
      have := rm_count (fun x : THeld => decide (x.1 = (i' : Int))) ha
      unfold cH
      rw [this]
      by_cases e : (i' : Int) = a.1
      · rw [if_pos e, if_pos (by simp [e])]
      · rw [if_neg e, if_neg (by simp; omega)]
    have hpend := h.cnt i b hb
    have hcti := hct i
    rw [if_pos hai.symm] at hcti
    have hbt' : b = true := by
      cases b with
      | true => rfl
      | false => simp only [Bool.false_eq_true, if_false] at hpend; omega
    subst hbt'
    simp only [if_true] at hpend
    have hz : cW i asks = 0 ∧ cH i held = 0 ∧ cH i (rm tells j) = 0 := by omega
    obtain ⟨hearG, he1, he2, he5, hov⟩ := hear_good hg hfit
    have hrm : ([] ++ (tells.take j).drop 0) ++ (tells.take tells.length).drop ((j : Int) + 1).toNat = rm tells j := by
      unfold rm
      rw [show ((j : Int) + 1).toNat = j + 1 by omega, List.drop_zero, List.take_length]
      rfl
    obtain ⟨who, resp⟩ := a
    simp only at hai hfit htold hearG he1 he2 he5 hov ha hct
    subst hai
    rw [dec_true hr, rd_at kHeld ha]
    simp only [Bool.not_true, cond_false]
    rw [w64 (n := (j : Int) + 1) (by omega) (by omega), dec_true (show (0 : Int) ≤ (j : Int) by omega), dec_true (show (j : Int) < (tells.length : Int) by omega), dec_true (show (j : Int) ≤ (tells.length : Int) by omega),
      dec_true (show (0 : Int) ≤ (j : Int) + 1 by omega), dec_true (show (j : Int) + 1 ≤ (tells.length : Int) by omega), dec_true (by simp; omega), dec_true (by simp; omega), dec_true (by simp; omega), dec_true (by simp; omega),
      dec_true (show (0 : Int) ≤ (i : Int) by omega), dec_true (show (i : Int) < (busy.length : Int) by omega), dec_true (show (i : Int) < (cls.length : Int) by omega), rd_at .bool hb, rd_at knClI hcl, l17Over_eq, l17Hear_eq, hov]
    simp only [cond_true, Bool.not_false, bO, Int.toNat_natCast]
    rw [hrm]
    rw [dec_true (show (i : Int) < (best.length : Int) by omega), rd_at (.int .i64) hbt]
    -- the world behind it
    have main : ∀ best', best'.length = cls.length → (∀ (i' : Nat) (b' : Int), best'[i']? = some b' → (i' ≠ i ∧ best[i']? = some b') ∨ (i' = i ∧ (b' = bt0 ∨ b' = resp.2))) →
        WIw k (((st, held), (cls.set i (hear cl resp), (busy.set i false, (asks, (rm tells j, best'))))) : TWorld) := fun best' hbl hbb => by
      refine wiw (c := c) (uc := uc) ?_
      have hsetn : ∀ (i' : Nat) (x : TClient), (cls.set i (hear cl resp))[i']? = some x → (i' = i ∧ x = hear cl resp) ∨ (i' ≠ i ∧ cls[i']? = some x) := fun i' x hx => set_get hx
      have hget : ∀ (i' : Nat) (x : TClient), i' ≠ i → cls[i']? = some x → (cls.set i (hear cl resp))[i']? = some x := fun i' x hne hx => by rw [List.getElem?_set_ne (fun e => hne e.symm)]; exact hx
      have hgeti : (cls.set i (hear cl resp))[i]? = some (hear cl resp) := by rw [List.getElem?_set_self hic]
      refine { h with n6 := by simp only [List.length_set]; exact h.n6, lb := by simp only [List.length_set]; exact h.lb, lt := by simp only [List.length_set]; exact hbl, dist := ?_, cl := ?_, cnt := ?_, dn := ?_, ask := ?_, hld := ?_, tell := ?_, bst := ?_, ends := ?_, oku := ?_, l6 := ?_ }
      · intro p q x y hx hy e
        rcases hsetn p x hx with ⟨e1, rfl⟩ | ⟨n1, hx1⟩ <;> rcases hsetn q y hy with ⟨e2, rfl⟩ | ⟨n2, hy1⟩
        · exact e1.trans e2.symm
        · exact e1.trans (h.dist _ _ cl y hcl hy1 (by rw [← he1]; exact e))
        · exact (h.dist _ _ x cl hx1 hcl (by rw [← he1]; exact e)).trans e2.symm
        · exact h.dist _ _ x y hx1 hy1 e
      · intro p x hx
        rcases hsetn p x hx with ⟨_, rfl⟩ | ⟨_, hx⟩
        · exact hearG
        · exact h.cl p x hx
      · intro p b' hb'
        rcases set_get hb' with ⟨rfl, rfl⟩ | ⟨hne, hb'⟩
        · simp only [Bool.false_eq_true, if_false]; omega
        · have h1 := h.cnt p b' hb'
          have h2 := hct p
          rw [if_neg (by omega)] at h2
          omega
      · intro p x hx h5
        rcases hsetn p x hx with ⟨rfl, rfl⟩ | ⟨hne, hx⟩
        · rw [List.getElem?_set_self (show p < busy.length by omega)]
        · rw [List.getElem?_set_ne (fun e => hne e.symm)]
          exact h.dn p x hx h5
      · intro x hx
        obtain ⟨i', a', h1, h2, h3⟩ := h.ask x hx
        have hne : i' ≠ i := fun e => by
          subst e
          exact count_zero hz.1 hx (decide_eq_true h2)
        exact ⟨i', a', hget i' a' hne h1, h2, h3⟩
      · intro x hx
        obtain ⟨i', a', h1, h2, h3⟩ := h.hld x hx
        have hne : i' ≠ i := fun e => by
          subst e
          exact count_zero hz.2.1 hx (decide_eq_true h2)
        exact ⟨i', a', hget i' a' hne h1, h2, h3⟩
      · intro x hx
        obtain ⟨i', a', h1, h2, h3⟩ := h.tell x (rm_mem hx)
        have hne : i' ≠ i := fun e => by
          subst e
          exact count_zero hz.2.2 hx (decide_eq_true h2)
        exact ⟨i', a', hget i' a' hne h1, h2, h3⟩
      · intro p x b' hx hb'
        rcases hsetn p x hx with ⟨rfl, rfl⟩ | ⟨hne, hx⟩
        · rw [he1]
          rcases hbb p b' hb' with ⟨hne, _⟩ | ⟨_, rfl | rfl⟩
          · exact absurd rfl hne
          · exact h.bst p cl _ hcl hbt
          · exact htold.1
        · rcases hbb p b' hb' with ⟨_, hb'⟩ | ⟨e, _⟩
          · exact h.bst p x b' hx hb'
          · exact absurd e hne
      · intro p x hx h5
        rcases hsetn p x hx with ⟨rfl, rfl⟩ | ⟨hne, hx⟩
        · obtain ⟨g1, g2⟩ := he5 h5
          rw [he1]
          exact htold.2 g1 g2
        · exact h.ends p x hx h5
      · intro u hu
        obtain ⟨i', a', h1, h2, h3⟩ := h.oku u hu
        by_cases e : i' = i
        · subst e
          rw [hcl] at h1; injection h1 with h1; subst h1
          exact ⟨i', _, hgeti, by rw [he1]; exact h2, by rw [he2]; exact h3⟩
        · exact ⟨i', a', hget i' a' e h1, h2, h3⟩
      · have := rm_len hjl; omega
    by_cases hgt : resp.2 > bt0
    · rw [dec_true hgt]
      simp only [cond_true]
      refine ⟨true, _, rfl, main (best.set i resp.2) (by rw [List.length_set]; exact hlt) fun i' b' hb' => ?_⟩
      rcases set_get hb' with ⟨e, rfl⟩ | ⟨hne, hb'⟩
      · exact .inr ⟨e, .inr rfl⟩
      · exact .inl ⟨hne, hb'⟩
    · rw [dec_false hgt]
      simp only [cond_true, cond_false]
      refine ⟨true, _, rfl, main best hlt fun i' b' hb' => ?_⟩
      by_cases e : i' = i
      · subst e
        rw [hbt] at hb'; injection hb' with hb'
        exact .inr ⟨rfl, .inl hb'.symm⟩
      · exact .inl ⟨e, hb'⟩
  · rw [dec_false hr]
    exact ⟨false, _, rfl, same⟩
theorem others_eq (l : List THeld) (i : Int) (hl : l.length ≤ 1048576) : P_s_l18Others l i = some (l.filter (fun x => !decide (x.1 = i)), ()) := by
  simp only [P_s_l18Others, B_s_l18Others]
  refine loopO_count (L_s_l18Others_0 l i) (fun j => ((j : Int), (l.take j).filter (fun x => !decide (x.1 = i)), ())) l.length (l.filter (fun x => !decide (x.1 = i)), ()) (fun j hj => ?_) ?_
  · have h1 : ((j : Int) < (l.length : Int)) := by omega
    have h2 : (0 : Int) ≤ (j : Int) := by omega
    have hlen := List.length_filter_le (fun x : THeld => !decide (x.1 = i)) (l.take j)
    rw [List.length_take] at hlen
    simp only [L_s_l18Others_0, dec_true h1, dec_true h2, cond_true]
    rw [rd_at kHeld (List.getElem?_eq_getElem hj), w64 (by omega) (by omega), List.take_succ_eq_append_getElem hj, List.filter_append]
    by_cases e : l[j].1 = i
    · rw [dec_true e]
      simp only [Bool.not_true, cond_false]
      have : ([l[j]].filter fun x => !decide (x.1 = i)) = [] := by simp [e]
      rw [this, List.append_nil]
      rfl
    · rw [dec_false e]
      simp only [Bool.not_false, cond_true]
      rw [dec_true (by simp; omega), dec_true (by simp; omega)]
      have : ([l[j]].filter fun x => !decide (x.1 = i)) = [l[j]] := by simp [e]
      rw [this]
      rfl
  · simp only [L_s_l18Others_0, List.take_length]
    rw [dec_false (by omega)]
    rfl
theorem cutAsks_eq (w : TWorld) (i : Int) (hl : w.2.2.2.1.length ≤ 1048576) : loopO (L_s_l18Cut_W_0 w i) (0, [], ()) = some (w.2.2.2.1.filter (fun x => !decide (x.1 = i)), ()) := by
  refine loopO_count (L_s_l18Cut_W_0 w i) (fun j => ((j : Int), (w.2.2.2.1.take j).filter (fun x => !decide (x.1 = i)), ())) w.2.2.2.1.length (w.2.2.2.1.filter (fun x => !decide (x.1 = i)), ()) (fun j hj => ?_) ?_
  · have h1 : ((j : Int) < (w.2.2.2.1.length : Int)) := by omega
    have h2 : (0 : Int) ≤ (j : Int) := by omega
    have hlen := List.length_filter_le (fun x : TWant => !decide (x.1 = i)) (w.2.2.2.1.take j)
    rw [List.length_take] at hlen
    simp only [L_s_l18Cut_W_0, dec_true h1, dec_true h2, cond_true]
    rw [rd_at knWantI (List.getElem?_eq_getElem hj), w64 (by omega) (by omega), List.take_succ_eq_append_getElem hj, List.filter_append]
    by_cases e : w.2.2.2.1[j].1 = i
    · rw [dec_true e]
      simp only [Bool.not_true, cond_false]
      have : ([w.2.2.2.1[j]].filter fun x => !decide (x.1 = i)) = [] := by simp [e]
      rw [this, List.append_nil]
      rfl
    · rw [dec_false e]
      simp only [Bool.not_false, cond_true]
      rw [dec_true (by simp; omega), dec_true (by simp; omega)]
      have : ([w.2.2.2.1[j]].filter fun x => !decide (x.1 = i)) = [w.2.2.2.1[j]] := by simp [e]
      rw [this]
      rfl
  · simp only [L_s_l18Cut_W_0, List.take_length]
    rw [dec_false (by omega)]
    rfl
theorem filt_count_same {α : Type} {f : α → Int} {i j : Int} (hne : j ≠ i) (l : List α) : (l.filter fun x => !decide (f x = i)).countP (fun x => decide (f x = j)) = l.countP (fun x => decide (f x = j)) := by
  rw [List.countP_filter]
  refine List.countP_congr fun x _ => ?_
  simp only [Bool.and_eq_true, decide_eq_true_eq, Bool.not_eq_true', decide_eq_false_iff_not]
  omega
theorem filt_count_zero {α : Type} {f : α → Int} {i : Int} (l : List α) : (l.filter fun x => !decide (f x = i)).countP (fun x => decide (f x = i)) = 0 := by
  rw [List.countP_eq_zero]
  intro x hx
  have := (List.mem_filter.1 hx).2
  simpa using this
theorem do_cut (k : Nat) (w : TWorld) (h : WIw k w) (i : Int) (hi : i < 9223372036854775807) : ∃ b w', P_s_l18Cut_W w i = some (b, w', ()) ∧ WIw k w' := by
  obtain ⟨⟨st, held⟩, cls, busy, asks, tells, best⟩ := w
  obtain ⟨c, uc, h⟩ := h
  simp only at h
  have hn := h.n6
  have hl6 := h.l6
  have hla := h.la
  have hlh := h.lh
  have hlb := h.lb
  have hlt := h.lt
  have same : WIw k (((st, held), (cls, (busy, (asks, (tells, best))))) : TWorld) := ⟨c, uc, h⟩
  simp only [P_s_l18Cut_W, B_s_l18Cut_W, l1In_eq, bO]
  rw [w64 (n := (cls.length : Int) - 1) (by omega) (by omega)]
  by_cases hr : 0 ≤ i ∧ i ≤ (cls.length : Int) - 1
  · obtain ⟨i, rfl⟩ : ∃ q : Nat, i = (q : Int) := ⟨i.toNat, by omega⟩
    have hic : i < cls.length := by omega
    obtain ⟨cl, hcl⟩ : ∃ x, cls[i]? = some x := ⟨_, List.getElem?_eq_getElem hic⟩
    have hg := h.cl i cl hcl
    obtain ⟨_, h400, _⟩ := cl_facts hg
    obtain ⟨cutG, he1, he2, he5⟩ := cut_good hg
    rw [dec_true hr, cutAsks_eq (((st, held), (cls, (busy, (asks, (tells, best))))) : TWorld) (i : Int) (by show asks.length ≤ _; omega), others_eq tells _ (by omega), others_eq held _ (by omega), dec_true (show (0 : Int) ≤ (i : Int) by omega), dec_true (show (i : Int) < (cls.length : Int) by omega), dec_true (show (i : Int) < (busy.length : Int) by omega), rd_at knClI hcl, s_CutOff_eq cl (cl_size hg) (by omega)]
    simp only [Bool.not_true, cond_false, cond_true, bO, Int.toNat_natCast]
    refine ⟨true, _, rfl, wiw (c := c) (uc := uc) ?_⟩
    have hsetn : ∀ (i' : Nat) (x : TClient), (cls.set i (cutOff cl))[i']? = some x → (i' = i ∧ x = cutOff cl) ∨ (i' ≠ i ∧ cls[i']? = some x) := fun i' x hx => set_get hx
    have hget : ∀ (i' : Nat) (x : TClient), i' ≠ i → cls[i']? = some x → (cls.set i (cutOff cl))[i']? = some x := fun i' x hne hx => by rw [List.getElem?_set_ne (fun e => hne e.symm)]; exact hx
    have hgeti : (cls.set i (cutOff cl))[i]? = some (cutOff cl) := by rw [List.getElem?_set_self hic]
    have hni : ∀ {x : Int} {i' : Nat}, (!decide (x = (i : Int))) = true → x = (i' : Int) → i' ≠ i := fun hx e hh => by
      subst hh; rw [e] at hx; simp at hx
    refine { h with n6 := by simp only [List.length_set]; exact h.n6, lb := by simp only [List.length_set]; exact h.lb, lt := by simp only [List.length_set]; exact h.lt, dist := ?_, cl := ?_, cnt := ?_, dn := ?_, ask := ?_, hld := ?_, tell := ?_, bst := ?_, ends := ?_, oku := ?_, la := Nat.le_trans (List.length_filter_le _ _) hla, l6 := Nat.le_trans (List.length_filter_le _ _) hl6, lh := Nat.le_trans (List.length_filter_le _ _) hlh }
    · intro p q x y hx hy e
      rcases hsetn p x hx with ⟨e1, rfl⟩ | ⟨n1, hx1⟩ <;> rcases hsetn q y hy with ⟨e2, rfl⟩ | ⟨n2, hy1⟩
      · exact e1.trans e2.symm
      · exact e1.trans (h.dist _ _ cl y hcl hy1 (by rw [← he1]; exact e))
      · exact (h.dist _ _ x cl hx1 hcl (by rw [← he1]; exact e)).trans e2.symm
      · exact h.dist _ _ x y hx1 hy1 e
    · intro p x hx
      rcases hsetn p x hx with ⟨_, rfl⟩ | ⟨_, hx⟩
      · exact cutG
      · exact h.cl p x hx
    · intro p b' hb'
      rcases set_get hb' with ⟨rfl, rfl⟩ | ⟨hne, hb'⟩
      · simp only [Bool.false_eq_true, if_false]
        have e1 : cW p (asks.filter fun x => !decide (x.1 = (p : Int))) = 0 := filt_count_zero (f := fun x : TWant => x.1) asks
        have e2 : cH p (held.filter fun x => !decide (x.1 = (p : Int))) = 0 := filt_count_zero (f := fun x : THeld => x.1) held
        have e3 : cH p (tells.filter fun x => !decide (x.1 = (p : Int))) = 0 := filt_count_zero (f := fun x : THeld => x.1) tells
        rw [e1, e2, e3]
      · have h1 := h.cnt p b' hb'
        have hne' : (p : Int) ≠ (i : Int) := by omega
        have e1 : cW p (asks.filter fun x => !decide (x.1 = (i : Int))) = cW p asks := filt_count_same (f := fun x : TWant => x.1) hne' asks
        have e2 : cH p (held.filter fun x => !decide (x.1 = (i : Int))) = cH p held := filt_count_same (f := fun x : THeld => x.1) hne' held
        have e3 : cH p (tells.filter fun x => !decide (x.1 = (i : Int))) = cH p tells := filt_count_same (f := fun x : THeld => x.1) hne' tells
        rw [e1, e2, e3]
        exact h1
    · intro p x hx h5
      rcases hsetn p x hx with ⟨rfl, rfl⟩ | ⟨hne, hx⟩
      · rw [List.getElem?_set_self (show p < busy.length by omega)]
      · rw [List.getElem?_set_ne (fun e => hne e.symm)]
        exact h.dn p x hx h5
    · intro x hx
      obtain ⟨hx, hxi⟩ := List.mem_filter.1 hx
      obtain ⟨i', a', h1, h2, h3⟩ := h.ask x hx
      exact ⟨i', a', hget i' a' (hni hxi h2) h1, h2, h3⟩
    · intro x hx
      obtain ⟨hx, hxi⟩ := List.mem_filter.1 hx
      obtain ⟨i', a', h1, h2, h3⟩ := h.hld x hx
      exact ⟨i', a', hget i' a' (hni hxi h2) h1, h2, h3⟩
    · intro x hx
      obtain ⟨hx, hxi⟩ := List.mem_filter.1 hx
      obtain ⟨i', a', h1, h2, h3⟩ := h.tell x hx
      exact ⟨i', a', hget i' a' (hni hxi h2) h1, h2, h3⟩
    · intro p x b' hx hb'
      rcases hsetn p x hx with ⟨rfl, rfl⟩ | ⟨hne, hx⟩
      · rw [he1]; exact h.bst p cl b' hcl hb'
      · exact h.bst p x b' hx hb'
    · intro p x hx h5
      rcases hsetn p x hx with ⟨rfl, rfl⟩ | ⟨hne, hx⟩
      · rw [he1]; exact h.ends p cl hcl (he5 h5)
      · exact h.ends p x hx h5
    · intro u hu
      obtain ⟨i', a', h1, h2, h3⟩ := h.oku u hu
      by_cases e : i' = i
      · subst e
        rw [hcl] at h1; injection h1 with h1; subst h1
        exact ⟨i', _, hgeti, by rw [he1]; exact h2, by rw [he2]; exact h3⟩
      · exact ⟨i', a', hget i' a' e h1, h2, h3⟩
  · rw [dec_false hr]
    exact ⟨false, _, rfl, same⟩
theorem do_crash (k : Nat) (hk : k ≤ 9999) (w : TWorld) (h : WIw k w) (ke : List Bool) : ∃ b w', P_s_l18Crash_W w ke = some (b, w', ()) ∧ WIw (k + 1) w' := by
  obtain ⟨⟨st, held⟩, cls, busy, asks, tells, best⟩ := w
  obtain ⟨c, uc, h⟩ := h
  simp only at h
  have hn := h.n6
  have hlb := h.lb
  have hlt := h.lt
  have hep := h.ep
  obtain ⟨m, us, g1, g2, g3, g4, g5, g6, g7⟩ := dur_crash h.dur ke (by omega)
  have hfl := s_fall_eq st.1 ke h.dur.g.dk
  have hop : P_s_OpenStore_r99_0 (fallF st.1 ke) = _ := s_open_eq g7
  simp only [P_s_l18Crash_W, B_s_l18Crash_W, hfl, hop, bO, Bool.not_true, cond_false]
  have key := loopO_count (L_s_l18Crash_W_0 P_s_CutOff) (fun j => ((j : Int), (openedF (mixL st.1.1 st.1.2 ke) us).2.1, (openedF (mixL st.1.1 st.1.2 ke) us).2.2.1, (openedF (mixL st.1.1 st.1.2 ke) us).2.2.2, ([] : List TWant), ([] : List THeld), segL (cls.map cutOff) cls j, segL (List.replicate cls.length false) busy j, best, (openedF (mixL st.1.1 st.1.2 ke) us).1.1, (openedF (mixL st.1.1 st.1.2 ke) us).1.2, ())) cls.length
    (true, (((((openedF (mixL st.1.1 st.1.2 ke) us).1.1, (openedF (mixL st.1.1 st.1.2 ke) us).1.2), ((openedF (mixL st.1.1 st.1.2 ke) us).2.1, ((openedF (mixL st.1.1 st.1.2 ke) us).2.2.1, (openedF (mixL st.1.1 st.1.2 ke) us).2.2.2))), []), (cls.map cutOff, (List.replicate cls.length false, ([], ([], best))))), ()) (fun j hj => ?_) ?_
  · refine ⟨true, _, key, wiw (c := m) (uc := us) ?_⟩
    have hle : LeUs us st.2.2.2 := by
      have h1 := h.dur.g.up
      rw [← List.take_length (l := scanL st.1.1)] at h1
      exact fold_mono g2 g4 h1 h.nd
    have hle2 : LeUs uc us := fold_mono g1 h.fuc g4 h.nd
    have hsc : scanL (openedF (mixL st.1.1 st.1.2 ke) us).1.1 = (scanL st.1.1).take m := g3
    have hlen : ((scanL st.1.1).take m).length = m := by rw [List.length_take]; omega
    have hdur := opened_dur g7
    rw [g3, hlen] at hdur
    have hmap : ∀ (i : Nat) (x : TClient), (cls.map cutOff)[i]? = some x → ∃ a, cls[i]? = some a ∧ x = cutOff a := fun i x hx => by
      rw [List.getElem?_map] at hx
      cases ha : cls[i]? with
      | none => rw [ha] at hx; cases hx
      | some a => rw [ha] at hx; injection hx with hx; exact ⟨a, rfl, hx.symm⟩
    exact {
      dur := hdur
      ep := by show topL (mixL st.1.1 st.1.2 ke) + 1 ≤ ((k + 1 : Nat) : Int); omega
      nd := fun r hr => by rw [hsc] at hr; exact h.nd r (List.mem_of_mem_take hr)
      fuc := by rw [hsc, List.take_take, Nat.min_self]; exact g4
      n6 := by rw [List.length_map]; exact h.n6
      lb := by rw [List.length_map, List.length_replicate]
      lt := by rw [List.length_map]; exact h.lt
      dist := fun p q x y hx hy e => by
        obtain ⟨a, ha, rfl⟩ := hmap p x hx
        obtain ⟨b, hb, rfl⟩ := hmap q y hy
        rw [(cut_good (h.cl p a ha)).2.1, (cut_good (h.cl q b hb)).2.1] at e
        exact h.dist p q a b ha hb e
      cl := fun p x hx => by
        obtain ⟨a, ha, rfl⟩ := hmap p x hx
        exact (cut_good (h.cl p a ha)).1
      cnt := fun p b hb => by
        have := (List.mem_replicate.1 (List.mem_of_getElem? hb)).2
        subst this
        rfl
      dn := fun p x hx h5 => by
        obtain ⟨a, ha, rfl⟩ := hmap p x hx
        have hp := (List.getElem?_eq_some_iff.1 ha).1
        rw [List.getElem?_replicate, if_pos hp]
      ask := fun x hx => by cases hx
      hld := fun x hx => by cases hx
      tell := fun x hx => by cases hx
      bst := fun p x b hx hb => by
        obtain ⟨a, ha, rfl⟩ := hmap p x hx
        rw [(cut_good (h.cl p a ha)).2.1]
        rcases h.bst p a b ha hb with h1 | ⟨u, hu, e, hl⟩
        · exact .inl h1
        · obtain ⟨v, hv, hlu⟩ := hle2 u hu
          have := hlu.len
          exact .inr ⟨v, hv, hlu.id.symm.trans e, by omega⟩
      ends := fun p x hx h5 => by
        obtain ⟨a, ha, rfl⟩ := hmap p x hx
        obtain ⟨_, e1, _, e5⟩ := cut_good (h.cl p a ha)
        rw [e1]
        obtain ⟨u, hu, e, hd⟩ := h.ends p a ha (e5 h5)
        obtain ⟨v, hv, hlu⟩ := hle2 u hu
        exact ⟨v, hv, hlu.id.symm.trans e, (hlu.fin hd).1⟩
      oku := fun u hu => by
        obtain ⟨v, hv, hlu⟩ := hle u hu
        obtain ⟨i, a, ha, e, hok⟩ := h.oku v hv
        obtain ⟨_, e1, e2, _⟩ := cut_good (h.cl i a ha)
        exact ⟨i, cutOff a, by rw [List.getElem?_map, ha]; rfl, by rw [e1]; exact hlu.id.trans e, by rw [e2]; exact okU_le hlu hok⟩
      la := Nat.zero_le _
      l6 := Nat.zero_le _
      lh := Nat.zero_le _ }
  · have hlm : (cls.map cutOff).length = cls.length := List.length_map _
    have hlr : (List.replicate cls.length false).length = busy.length := by rw [List.length_replicate]; omega
    have l1 := segL_len (l := cls.map cutOff) (x := cls) hlm j
    have l2 := segL_len (l := List.replicate cls.length false) (x := busy) hlr j
    have gc := segL_get (l := cls.map cutOff) (x := cls) hlm hj
    rw [List.getElem?_eq_getElem hj] at gc
    have hg := h.cl j _ (List.getElem?_eq_getElem hj)
    obtain ⟨_, h400, _⟩ := cl_facts hg
    simp only [L_s_l18Crash_W_0, l1, l2]
    rw [dec_true (show (j : Int) < (cls.length : Int) by omega), dec_true (show (0 : Int) ≤ (j : Int) by omega), rd_at knClI gc, s_CutOff_eq _ (cl_size hg) (by omega), dec_true (show (j : Int) < (busy.length : Int) by omega), w64 (by omega) (by omega)]
    simp only [cond_true, bO, Int.toNat_natCast]
    have e1 := segL_set (l := cls.map cutOff) (x := cls) hlm (i := j) (by omega)
    have e2 := segL_set (l := List.replicate cls.length false) (x := busy) hlr (i := j) (by rw [List.length_replicate]; exact hj)
    rw [List.getElem_map] at e1
    rw [List.getElem_replicate] at e2
    rw [e1, e2]
    rfl
  · have e1 : segL (cls.map cutOff) cls cls.length = cls.map cutOff := by unfold segL; rw [List.drop_length, List.append_nil, List.take_of_length_le (by simp)]
    have e2 : segL (List.replicate cls.length false) busy cls.length = List.replicate cls.length false := by unfold segL; rw [← hlb, List.drop_length, List.append_nil, List.take_of_length_le (by simp)]
    simp only [L_s_l18Crash_W_0, e1, e2, List.length_map]
    rw [dec_false (by omega)]
    rfl
theorem wi_mono {k : Nat} {w : TWorld} (h : WIw k w) : WIw (k + 1) w := by
  obtain ⟨c, uc, h⟩ := h
  exact ⟨c, uc, { h with ep := by have := h.ep; omega }⟩
theorem do_all (k : Nat) (hk : k ≤ 9999) (w : TWorld) (h : WIw k w) (e : TEvent) (he : e.2.1 < 9223372036854775807) : ∃ b w', P_s_l18Do_W w e = some (b, w', ()) ∧ WIw (k + 1) w' := by
  simp only [P_s_l18Do_W, B_s_l18Do_W]
  by_cases h1 : e.1 = 1
  · obtain ⟨b, w', q, hw⟩ := do_send k w h e.2.1 he
    rw [dec_true h1, q]
    exact ⟨b, w', rfl, wi_mono hw⟩
  rw [dec_false h1]
  by_cases h2 : e.1 = 2
  · obtain ⟨b, w', q, hw⟩ := do_serve k w h e.2.1 he
    rw [dec_true h2, q]
    exact ⟨b, w', rfl, wi_mono hw⟩
  rw [dec_false h2]
  by_cases h3 : e.1 = 3
  · obtain ⟨b, w', q, hw⟩ := do_sync k w h
    rw [dec_true h3, q]
    exact ⟨b, w', rfl, wi_mono hw⟩
  rw [dec_false h3]
  by_cases h4 : e.1 = 4
  · obtain ⟨b, w', q, hw⟩ := do_tell k w h e.2.1 he
    rw [dec_true h4, q]
    exact ⟨b, w', rfl, wi_mono hw⟩
  rw [dec_false h4]
  by_cases h5 : e.1 = 5
  · obtain ⟨b, w', q, hw⟩ := do_cut k w h e.2.1 he
    rw [dec_true h5, q]
    exact ⟨b, w', rfl, wi_mono hw⟩
  rw [dec_false h5]
  by_cases h6 : e.1 = 6
  · obtain ⟨b, w', q, hw⟩ := do_crash k hk w h e.2.2
    rw [dec_true h6, q]
    exact ⟨b, w', rfl, hw⟩
  rw [dec_false h6]
  exact ⟨false, w, rfl, wi_mono h⟩
def clientNew (id : ByteArray) (f : List Int) : Client := if clientOkB (id, f, 1, 0) then (id, f, 1, 0) else (⟨#[]⟩, [], 0, 0)
theorem s_ClientNew_eq (id : ByteArray) (f : List Int) (h : id.size ≤ maxLen) (h2 : f.length ≤ 140737488355328) : P_s_ClientNew id f = some (clientNew id f, ()) := by
  simp only [P_s_ClientNew, B_s_ClientNew]
  rw [dec_true (by simp; omega), dec_true (by simp; omega)]
  simp only [cond_true, List.nil_append]
  rw [s_ClientOk_eq _ h]
  simp only [bindO, clientNew]
  cases clientOkB (id, f, 1, 0) <;> simp

theorem fits_ok {c : TClient} {r : TResp} (hc : ClG c) (h : Fits c r) : respOkB r = true := by
  have hlen : c.2.1.length ≤ 400 := (cl_facts hc).2.1
  have key : ∀ a b : Int, (100 ≤ a ∧ a ≤ 599) → (-1 ≤ b ∧ b ≤ 1000000000) → respOkB (a, b) = true := fun a b h1 h2 => by
    simp only [respOkB]
    rw [dec_true h1, dec_true h2]
    rfl
  rcases h with ⟨_, h⟩ | ⟨_, h⟩ | ⟨_, h⟩ | ⟨_, h⟩
  · rcases h with rfl | ⟨o, ho, rfl⟩ | rfl <;> exact key _ _ (by omega) (by omega)
  · rcases h with rfl | ⟨o, ho, rfl⟩ <;> exact key _ _ (by omega) (by omega)
  · rcases h with ⟨o, ho, rfl | rfl⟩ | rfl | rfl <;> exact key _ _ (by omega) (by omega)
  · rcases h with rfl | rfl | ⟨o, ho, rfl⟩ | rfl <;> exact key _ _ (by omega) (by omega)
theorem req_ok {c : TClient} {r : TReq} {d : List Int} (hc : ClG c) (hq : nextReq c = (r, d, true, ())) : reqOkB r = true ∧ r.2.1.size ≤ 1048576 ∧ d.length ≤ 400 := by
  obtain ⟨hid, h400, _, _, o0, o1⟩ := cl_facts hc
  have hcs := cl_size hc
  have hx : crcL c.2.1 ^^^ 4294967295 < 2 ^ 32 := Nat.xor_lt_two_pow (crcL_lt hc.byt) (by omega)
  have h8 : c.1.size ≤ 8 := by simp only [idB, Bool.and_eq_true, decide_eq_true_eq] at hid; omega
  have hl := nextReq_len c
  have key : ∀ a b : Int, (1 ≤ a ∧ a ≤ 6) → (0 ≤ b ∧ b ≤ reqMost a) → reqOkB (a, (c.1, b)) = true := fun a b h1 h2 => by
    simp only [reqOkB]
    rw [dec_true h1, dec_true h2, hid]
    rfl
  have e : (nextReq c).2.2.1 = true → reqOkB (nextReq c).1 = true ∧ (nextReq c).1.2.1.size ≤ 1048576 := by
    unfold nextReq noReq
    repeat' split
    all_goals first | exact fun h => ⟨key _ _ (by omega) (by simp [reqMost] <;> omega), by show c.1.size ≤ _; omega⟩ | (intro h; cases h)
  rw [hq] at e hl
  obtain ⟨e1, e2⟩ := e rfl
  exact ⟨e1, e2, by have : d.length ≤ c.2.1.length := hl; omega⟩
theorem cl_idx {α : Type} {l : List α} {i : Nat} {x : α} (h : l[i]? = some x) : i < l.length := (List.getElem?_eq_some_iff.1 h).1
theorem helds_ok {cls : List TClient} (hc : ∀ (i : Nat) (a : TClient), cls[i]? = some a → ClG a) {l : List THeld} (h : ∀ h ∈ l, ∃ (i : Nat) (cl : TClient), cls[i]? = some cl ∧ h.1 = (i : Int) ∧ Fits cl h.2) : heldsB cls.length l = true := by
  unfold heldsB
  refine List.all_eq_true.2 fun i hi => ?_
  have hi := List.mem_range.1 hi
  rw [rd_nat (k := kHeld) (xs := l) hi]
  obtain ⟨j, cl, g1, g2, g3⟩ := h _ (List.getElem_mem hi)
  have := cl_idx g1
  simp only [heldB]
  rw [fits_ok (hc j cl g1) g3, dec_true (by omega)]
  rfl
theorem wi_clients {k c : Nat} {uc : List TUp} {st : TStore} {held cls busy asks tells best} (h : WI k c uc st held cls busy asks tells best) : P_s_l18Clients (((st, held), (cls, (busy, (asks, (tells, best))))) : TWorld) = some (true, ()) := by
  have hn := h.n6
  have hlb := h.lb
  have hlt := h.lt
  have inner : ∀ i, i < cls.length → loopO (L_s_l18Clients_0 ((i : Int), ()) (((st, held), (cls, (busy, (asks, (tells, best))))) : TWorld)) (0, ()) = some (.inl (((i + 1 : Nat) : Int), ())) := fun i hi => by
    refine loopO_count _ (fun j => ((j : Int), ())) i _ (fun j hj => ?_) ?_
    · have hne : ¬ ((rd kClient cls (j : Int)).1.toList == (rd kClient cls (i : Int)).1.toList) = true := fun e => by
        simp only [beq_iff_eq] at e
        have e2 := str_inj e
        rw [rd_nat (k := kClient) (xs := cls) hi, rd_nat (k := kClient) (xs := cls) (show j < cls.length by omega)] at e2
        have := h.dist j i _ _ (List.getElem?_eq_getElem (show j < cls.length by omega)) (List.getElem?_eq_getElem hi) e2
        omega
      simp only [L_s_l18Clients_0]
      rw [dec_true (show (j : Int) < (i : Int) by omega), dec_true (show (0 : Int) ≤ (j : Int) by omega), dec_true (show (j : Int) < (cls.length : Int) by omega), dec_true (show (0 : Int) ≤ (i : Int) by omega), dec_true (show (i : Int) < (cls.length : Int) by omega), Bool.eq_false_iff.2 hne, w64 (by omega) (by omega)]
      rfl
    · simp only [L_s_l18Clients_0]
      rw [dec_false (by omega), w64 (by omega) (by omega)]
      rfl
  simp only [P_s_l18Clients, B_s_l18Clients]
  have key := loopO_count (L_s_l18Clients_1 P_s_ClientOk (((st, held), (cls, (busy, (asks, (tells, best))))) : TWorld)) (fun j => ((j : Int), ())) cls.length (.inl ()) (fun i hi => ?_) ?_
  · have key' : loopO (L_s_l18Clients_1 P_s_ClientOk (((st, held), (cls, (busy, (asks, (tells, best))))) : TWorld)) (0, ()) = _ := key
    rw [key']
    simp only [bindS]
    rw [dec_true (by omega), dec_true (by omega), dec_true (by omega)]
    rfl
  · have hg := h.cl i _ (List.getElem?_eq_getElem hi)
    have hr := rd_nat (k := kClient) (xs := cls) hi
    simp only [L_s_l18Clients_1]
    rw [dec_true (show (i : Int) < (cls.length : Int) by omega), dec_true (show (0 : Int) ≤ (i : Int) by omega), hr, s_ClientOk_eq _ (cl_size hg), hg.ok, inner i hi]
    rfl
  · simp only [L_s_l18Clients_1]
    rw [dec_false (by omega)]
    rfl
theorem wi_sm {k c : Nat} {uc : List TUp} {st : TStore} {held cls busy asks tells best} (h : WI k c uc st held cls busy asks tells best) : Sm 1048576 kWorld (((st, held), (cls, (busy, (asks, (tells, best))))) : TWorld) ∧ BytW (((st, held), (cls, (busy, (asks, (tells, best))))) : TWorld) := by
  obtain ⟨hR, hS, hok⟩ := wi_good h
  have hU := hR.up
  have hn := h.n6
  have hlb := h.lb
  have hlt := h.lt
  have h60 := h.la
  have h6 := h.l6
  have h200 := h.lh
  have hu : ∀ u ∈ st.2.2.2, u.1.size ≤ 8 ∧ List.length u.2.2.1 ≤ 400 ∧ Byt u.2.2.1 := fun u hu => by
    obtain ⟨i, a, h1, _, h3⟩ := h.oku u hu
    have := h3.len
    have := (cl_facts (h.cl i a h1)).2.1
    have hg := hU.2.2 u hu
    exact ⟨hg.2.2.1, by omega, hg.2.2.2⟩
  have hc : ∀ x ∈ cls, x.1.size ≤ 8 ∧ x.2.1.length ≤ 400 ∧ Byt x.2.1 := fun x hx => by
    obtain ⟨i, hi, rfl⟩ := List.getElem_of_mem hx
    have hg := h.cl i _ (List.getElem?_eq_getElem hi)
    obtain ⟨hid, h4, _⟩ := cl_facts hg
    exact ⟨by simp only [idB, Bool.and_eq_true, decide_eq_true_eq] at hid; omega, h4, hg.byt⟩
  refine ⟨⟨⟨⟨⟨⟨hR.dk.1.1, fun x hx => hR.dk.1.2 x hx⟩, ⟨hR.dk.2.1, fun x hx => hR.dk.2.2 x hx⟩⟩, trivial, trivial, ⟨by have := hU.2.1; show List.length st.2.2.2 ≤ _; omega, fun u hm => ?_⟩⟩, ⟨by show held.length ≤ _; omega, fun x _ => ⟨trivial, trivial, trivial⟩⟩⟩, ⟨by show cls.length ≤ _; omega, fun x hx => ?_⟩, ⟨by show busy.length ≤ _; omega, fun _ _ => trivial⟩, ⟨by show asks.length ≤ _; omega, fun x hx => ?_⟩, ⟨by show tells.length ≤ _; omega, fun x _ => ⟨trivial, trivial, trivial⟩⟩, ⟨by show best.length ≤ _; omega, fun _ _ => trivial⟩⟩, fun u hm => (hu u hm).2.2, fun x hx => (hc x hx).2.2⟩
  · obtain ⟨g1, g2, _⟩ := hu u hm
    exact ⟨by show u.1.size ≤ _; omega, trivial, ⟨by show List.length u.2.2.1 ≤ _; omega, fun _ _ => trivial⟩, trivial⟩
  · obtain ⟨g1, g2, _⟩ := hc x hx
    exact ⟨by show x.1.size ≤ _; omega, ⟨by show x.2.1.length ≤ _; omega, fun _ _ => trivial⟩, trivial, trivial⟩
  · obtain ⟨i, cl, g1, _, g3⟩ := h.ask x hx
    obtain ⟨_, q2, q3⟩ := req_ok (h.cl i cl g1) g3
    exact ⟨trivial, ⟨trivial, q2, trivial⟩, ⟨by show List.length x.2.2 ≤ _; omega, fun _ _ => trivial⟩⟩
theorem wi_worldOk {k : Nat} {w : TWorld} (h : WIw k w) : P_s_WorldOk w = some (true, ()) ∧ P_i_WorldOk w = some (true, ()) := by
  obtain ⟨⟨st, held⟩, cls, busy, asks, tells, best⟩ := w
  obtain ⟨c, uc, h⟩ := h
  simp only at h
  obtain ⟨hR, hS, hok⟩ := wi_good h
  have hn := h.n6
  have h60 := h.la
  have h6 := h.l6
  have h200 := h.lh
  have hcls : ClsS (((st, held), (cls, (busy, (asks, (tells, best))))) : TWorld) := ⟨by show cls.length ≤ _; omega, fun x hx => by
    obtain ⟨i, hi, rfl⟩ := List.getElem_of_mem hx
    exact cl_size (h.cl i _ (List.getElem?_eq_getElem hi))⟩
  have hask : ∀ a ∈ asks, a.2.1.2.1.size ≤ 1048576 := fun a ha => by
    obtain ⟨i, cl, g1, _, g3⟩ := h.ask a ha
    exact (req_ok (h.cl i cl g1) g3).2.1
  have hW : WorS (((st, held), (cls, (busy, (asks, (tells, best))))) : TWorld) := ⟨hR.dk.1, by show held.length ≤ _; omega, hcls, ⟨by show asks.length ≤ _; omega, fun a ha => by have := hask a ha; simp only [maxLen]; omega⟩, by show tells.length ≤ _; omega⟩
  obtain ⟨b, e1, e2⟩ := worldOk_eq _ hW
  have hsv : P_s_ServerOk (st, held) = some (true, ()) := by
    simp only [P_s_ServerOk, B_s_ServerOk]
    have key := loopO_count (L_s_ServerOk_0 P_s_RespOk ((st, held) : TServer)) (fun j => ((j : Int), ())) held.length (.inl ()) (fun i hi => ?_) ?_
    · have key' : loopO (L_s_ServerOk_0 P_s_RespOk ((st, held) : TServer)) (0, ()) = _ := key
      rw [key']
      simp only [bindS]
      rw [dec_true (by omega), hok]
      rfl
    · obtain ⟨j, cl, g1, _, g3, _⟩ := h.hld _ (List.getElem_mem hi)
      simp only [L_s_ServerOk_0]
      rw [dec_true (show (i : Int) < (held.length : Int) by omega), dec_true (show (0 : Int) ≤ (i : Int) by omega), rd_nat (k := kHeld) (xs := held) hi, s_RespOk_eq, fits_ok (h.cl j cl g1) g3, w64 (by omega) (by omega)]
      rfl
    · simp only [L_s_ServerOk_0]
      rw [dec_false (by omega)]
      rfl
  have hwho := s_Who_eq (((st, held), (cls, (busy, (asks, (tells, best))))) : TWorld) tells (by simp only [maxLen]; omega) hcls.1
  have hwho2 := s_Who_eq (((st, held), (cls, (busy, (asks, (tells, best))))) : TWorld) held (by simp only [maxLen]; omega) hcls.1
  rw [show heldsB (List.length (((st, held), (cls, (busy, (asks, (tells, best))))) : TWorld).2.1) tells = true from helds_ok h.cl fun x hx => by obtain ⟨i, cl, g1, g2, g3, _⟩ := h.tell x hx; exact ⟨i, cl, g1, g2, g3⟩] at hwho
  rw [show heldsB (List.length (((st, held), (cls, (busy, (asks, (tells, best))))) : TWorld).2.1) held = true from helds_ok h.cl fun x hx => by obtain ⟨i, cl, g1, g2, g3, _⟩ := h.hld x hx; exact ⟨i, cl, g1, g2, g3⟩] at hwho2
  have hs : P_s_WorldOk (((st, held), (cls, (busy, (asks, (tells, best))))) : TWorld) = some (true, ()) := by
    simp only [P_s_WorldOk, B_s_WorldOk, hsv, wi_clients h, hwho, hwho2, bO]
    rw [dec_false (show ¬ (asks.length : Int) > 60 by omega), dec_false (show ¬ (tells.length : Int) > 60 by omega)]
    have key := loopO_count (L_s_WorldOk_0 P_s_ReqOk P_s_l1In (((st, held), (cls, (busy, (asks, (tells, best))))) : TWorld)) (fun j => ((j : Int), ())) asks.length (true, ()) (fun i hi => ?_) ?_
    · exact key
    · obtain ⟨j, cl, g1, g2, g3⟩ := h.ask _ (List.getElem_mem hi)
      obtain ⟨q1, q2, _⟩ := req_ok (h.cl j cl g1) g3
      have := cl_idx g1
      simp only [L_s_WorldOk_0]
      rw [dec_true (show (i : Int) < (asks.length : Int) by omega), dec_true (show (0 : Int) ≤ (i : Int) by omega), rd_nat (k := kWant) (xs := asks) hi, l1In_eq, w64 (n := (cls.length : Int) - 1) (by omega) (by omega), g2, dec_true (show (0 : Int) ≤ (j : Int) ∧ (j : Int) ≤ (cls.length : Int) - 1 by omega), s_ReqOk_eq _ (by simp only [maxLen]; omega), q1, w64 (by omega) (by omega)]
      rfl
    · simp only [L_s_WorldOk_0]
      rw [dec_false (by omega)]
      rfl
  rw [hs] at e1
  injection e1 with e1; injection e1 with e1
  subst e1
  exact ⟨hs, e2⟩
theorem upAt_cases (st : TStore) (id : ByteArray) : (∃ u ∈ st.2.2.2, u.1 = id ∧ upAt st id = (u, true, ())) ∨ upAt st id = noUp := by
  unfold upAt
  split
  · rename_i hlt
    have hf := firstN_fails (fun j => !((rd kUp st.2.2.2 (j : Int)).1.toList == id.toList)) st.2.2.2.length 0 (by unfold upIx at hlt; omega)
    have hf2 : (!((rd kUp st.2.2.2 (upIx st.2.2.2 id : Int)).1.toList == id.toList)) = false := hf
    rw [rd_nat (k := kUp) (xs := st.2.2.2) hlt] at hf2 ⊢
    simp only [Bool.not_eq_false', beq_iff_eq] at hf2
    exact .inl ⟨_, List.getElem_mem hlt, str_inj hf2, rfl⟩
  · exact .inr rfl
theorem beg_take {a b : List Int} (hl : a.length ≤ b.length) (h : a = b.take a.length) : beg a b = true := by
  unfold beg
  rw [dec_true hl, Bool.true_and]
  refine List.all_eq_true.2 fun i hi => ?_
  have hi := List.mem_range.1 hi
  rw [rd_nat (k := .int .u8) (xs := a) hi, rd_nat (k := .int .u8) (xs := b) (by omega)]
  refine decide_eq_true ?_
  have : a[i]? = (b.take a.length)[i]? := by rw [← h]
  rw [List.getElem?_take_of_lt hi, List.getElem?_eq_getElem hi, List.getElem?_eq_getElem (by omega)] at this
  injection this
theorem wi_safe {k : Nat} {w : TWorld} (h : WIw k w) : P_s_Begins w = some (true, ()) ∧ P_s_NotLost w = some (true, ()) ∧ P_s_Ends w = some (true, ()) ∧ P_s_NoneFails w = some (true, ()) ∧ P_i_Begins w = some (true, ()) ∧ P_i_NotLost w = some (true, ()) ∧ P_i_Ends w = some (true, ()) ∧ P_i_NoneFails w = some (true, ()) := by
  obtain ⟨⟨st, held⟩, cls, busy, asks, tells, best⟩ := w
  obtain ⟨c, uc, h⟩ := h
  simp only at h
  obtain ⟨hR, hS, hok⟩ := wi_good h
  have hn := h.n6
  have hlt := h.lt
  obtain ⟨hsm, hby⟩ := wi_sm h
  have ho : Ord st.2.2.2 := hR.up.1
  have hle := wi_uc h
  have fnd : ∀ (i : Nat) (hi : i < cls.length), ∀ u ∈ st.2.2.2, u.1 = (cls[i]).1 → OkU (cls[i]).2.1 u := fun i hi u hu e => by
    obtain ⟨j, a, g1, g2, g3⟩ := h.oku u hu
    have := h.dist j i a _ g1 (List.getElem?_eq_getElem hi) (by rw [← g2, e])
    subst this
    rw [List.getElem?_eq_getElem hi] at g1
    injection g1 with g1
    rw [g1]; exact g3
  have hrd : ∀ (i : Nat) (hi : i < cls.length), rd kClient cls (i : Int) = cls[i] := fun i hi => rd_nat (k := kClient) (xs := cls) hi
  have hbe : (List.range cls.length).all (be (((st, held), (cls, (busy, (asks, (tells, best))))) : TWorld)) = true := List.all_eq_true.2 fun i hi => by
    have hi := List.mem_range.1 hi
    simp only [be, upOf, hrd i hi]
    rcases upAt_cases st (cls[i]).1 with ⟨u, hu, e, q⟩ | q
    · have hk := fnd i hi u hu e
      rw [q]
      simp only [Bool.not_true, Bool.false_or]
      rw [beg_take hk.len hk.dat, Bool.true_and]
      exact decide_eq_true hk.want
    · rw [q]; rfl
  have hnl : (List.range cls.length).all (nl (((st, held), (cls, (busy, (asks, (tells, best))))) : TWorld)) = true := List.all_eq_true.2 fun i hi => by
    have hi := List.mem_range.1 hi
    have hib : i < best.length := by omega
    have hr : toldAt (((st, held), (cls, (busy, (asks, (tells, best))))) : TWorld) i = best[i] := rd_nat (k := .int .i64) (xs := best) hib
    simp only [nl, hr, upOf, hrd i hi]
    rcases h.bst i _ _ (List.getElem?_eq_getElem hi) (List.getElem?_eq_getElem hib) with e | ⟨u, hu, e, hl⟩
    · rw [dec_true e]; rfl
    · obtain ⟨v, hv, hlu⟩ := hle u hu
      have := hlu.len
      have q := upAt_mem ho hv
      rw [← hlu.id, e] at q
      rw [q]
      simp only
      rw [dec_false (show ¬ (List.length v.2.2.1 : Int) < best[i] by omega)]
      simp
  have hen : (List.range cls.length).all (en (((st, held), (cls, (busy, (asks, (tells, best))))) : TWorld)) = true := List.all_eq_true.2 fun i hi => by
    have hi := List.mem_range.1 hi
    simp only [en, upOf, hrd i hi]
    by_cases h5 : (cls[i]).2.2.1 = 5
    · obtain ⟨u, hu, e, hd⟩ := h.ends i _ (List.getElem?_eq_getElem hi) h5
      obtain ⟨v, hv, hlu⟩ := hle u hu
      have q := upAt_mem ho hv
      rw [← hlu.id, e] at q
      have hdv := (hlu.fin hd).1
      have hk := fnd i hi v hv (hlu.id.symm.trans e)
      have h2 := hk.dat
      rw [hk.fin hdv, List.take_length] at h2
      rw [q]
      simp only [hdv, Bool.true_and, h2]
      simp
    · rw [dec_false h5]; rfl
  have hnf : P_s_NoneFails (((st, held), (cls, (busy, (asks, (tells, best))))) : TWorld) = some (true, ()) := by
    simp only [P_s_NoneFails, B_s_NoneFails]
    have key := loopO_count (L_s_NoneFails_0 (((st, held), (cls, (busy, (asks, (tells, best))))) : TWorld)) (fun j => ((j : Int), ())) cls.length (true, ()) (fun i hi => ?_) ?_
    · exact key
    · have hg := h.cl i _ (List.getElem?_eq_getElem hi)
      simp only [L_s_NoneFails_0]
      rw [dec_true (show (i : Int) < (cls.length : Int) by omega), dec_true (show (0 : Int) ≤ (i : Int) by omega), hrd i hi, dec_false hg.lo, w64 (by omega) (by omega)]
      rfl
    · simp only [L_s_NoneFails_0]
      rw [dec_false (by omega)]
      rfl
  have q1 := s_Begins_eq _ hsm
  have q2 := i_Begins_eq _ hsm hby
  have q3 := s_NotLost_eq _ hsm
  have q4 := notLost_eq _ hsm
  have q5 := s_Ends_eq _ hsm
  have q6 := i_Ends_eq _ hsm
  have q7 := i_NoneFails_eq (((st, held), (cls, (busy, (asks, (tells, best))))) : TWorld)
  have hb' := hbe
  have hnl' : (List.range (min cls.length best.length)).all (nl (((st, held), (cls, (busy, (asks, (tells, best))))) : TWorld)) = true := by
    rw [hlt, Nat.min_self]; exact hnl
  have r1 : P_s_Begins (((st, held), (cls, (busy, (asks, (tells, best))))) : TWorld) = some (true, ()) := by rw [q1]; exact congrArg (fun b => some (b, ())) hbe
  have r2 : P_i_Begins (((st, held), (cls, (busy, (asks, (tells, best))))) : TWorld) = some (true, ()) := by rw [q2]; exact congrArg (fun b => some (b, ())) hbe
  have r3 : P_s_NotLost (((st, held), (cls, (busy, (asks, (tells, best))))) : TWorld) = some (true, ()) := by rw [q3]; exact congrArg (fun b => some (b, ())) hnl'
  have r5 : P_s_Ends (((st, held), (cls, (busy, (asks, (tells, best))))) : TWorld) = some (true, ()) := by rw [q5]; exact congrArg (fun b => some (b, ())) hen
  have r6 : P_i_Ends (((st, held), (cls, (busy, (asks, (tells, best))))) : TWorld) = some (true, ()) := by rw [q6]; exact congrArg (fun b => some (b, ())) hen
  exact ⟨r1, r3, r5, hnf, r2, q4.trans r3, r6, q7.trans hnf⟩

theorem l1Below_le (c : TL1Cur) (n : Int) (h : Cur c) (hn : n < 9223372036854775808) : ∃ r c', P_s_l1Below c n = some (r, c', ()) ∧ Cur c' ∧ 0 ≤ r ∧ (r < n ∨ r = 0) := by
  by_cases h0 : n ≤ 0
  · refine ⟨0, c, ?_, h, Int.le_refl _, .inr rfl⟩
    simp only [P_s_l1Below, B_s_l1Below]
    rw [dec_true h0]
    rfl
  · obtain ⟨r, c', e, h1, h2, h3⟩ := l1Below_ok c n h (by omega)
    exact ⟨r, c', e, h1, h2, .inl h3⟩
theorem l18Event_ok (c : TL1Cur) (w : TWorld) (h : Cur c) (h1 : w.2.1.length ≤ 1000) (h2 : w.2.2.2.1.length ≤ 1000) (h3 : w.2.2.2.2.1.length ≤ 1000) :
    ∃ e c', P_s_l18Event_r0_0_r95_1 c w = some (e, c', w, ()) ∧ Cur c' ∧ e.2.1 < 9223372036854775807 := by
  obtain ⟨k, c1, q1, hc1, k0, k1⟩ := l1Below_ok c 12 h (by omega)
  simp only [P_s_l18Event_r0_0_r95_1, B_s_l18Event_r0_0_r95_1, q1, bO]
  obtain ⟨b0, m0⟩ : ∃ b, (bif decide (k = 0) then (some (decide (k = 0), ()) : Option (Bool × Unit)) else bif decide (k = 1) then some (decide (k = 1), ()) else some (decide (k = 2), ())) = some (b, ()) := by
    cases decide (k = 0) <;> cases decide (k = 1) <;> exact ⟨_, rfl⟩
  rw [m0]
  simp only [bO]
  cases b0 with
  | true =>
    obtain ⟨r, c2, q2, hc2, r0, r1⟩ := l1Below_le c1 (w.2.1.length : Int) hc1 (by omega)
    simp only [cond_true, q2, bO, bindS]
    exact ⟨_, _, rfl, hc2, by simp only; omega⟩
  | false =>
  simp only [cond_false]
  obtain ⟨b1, m1⟩ : ∃ b, (bif decide (k = 3) then (some (decide (k = 3), ()) : Option (Bool × Unit)) else bif decide (k = 4) then some (decide (k = 4), ()) else some (decide (k = 5), ())) = some (b, ()) := by
    cases decide (k = 3) <;> cases decide (k = 4) <;> exact ⟨_, rfl⟩
  rw [m1]
  simp only [bO]
  cases b1 with
  | true =>
    obtain ⟨r, c2, q2, hc2, r0, r1⟩ := l1Below_le c1 (IntKind.i64.wrap ((w.2.2.2.1.length : Int) + 1)) hc1 (by rw [w64 (by omega) (by omega)]; omega)
    rw [w64 (by omega) (by omega)] at r1
    simp only [cond_true, q2, bO, bindS]
    exact ⟨_, _, rfl, hc2, by simp only; omega⟩
  | false =>
  simp only [cond_false]
  obtain ⟨b2, m2⟩ : ∃ b, (bif decide (k = 6) then (some (decide (k = 6), ()) : Option (Bool × Unit)) else some (decide (k = 7), ())) = some (b, ()) := by
    cases decide (k = 6) <;> exact ⟨_, rfl⟩
  rw [m2]
  simp only [bO]
  cases b2 with
  | true =>
    simp only [cond_true, bindS]
    exact ⟨_, _, rfl, hc1, by simp only; omega⟩
  | false =>
  simp only [cond_false]
  obtain ⟨b3, m3⟩ : ∃ b, (bif decide (k = 8) then (some (decide (k = 8), ()) : Option (Bool × Unit)) else some (decide (k = 9), ())) = some (b, ()) := by
    cases decide (k = 8) <;> exact ⟨_, rfl⟩
  rw [m3]
  simp only [bO]
  cases b3 with
  | true =>
    obtain ⟨r, c2, q2, hc2, r0, r1⟩ := l1Below_le c1 (IntKind.i64.wrap ((w.2.2.2.2.1.length : Int) + 1)) hc1 (by rw [w64 (by omega) (by omega)]; omega)
    rw [w64 (by omega) (by omega)] at r1
    simp only [cond_true, q2, bO, bindS]
    exact ⟨_, _, rfl, hc2, by simp only; omega⟩
  | false =>
  simp only [cond_false]
  cases decide (k = 10) with
  | true =>
    obtain ⟨r, c2, q2, hc2, r0, r1⟩ := l1Below_le c1 (w.2.1.length : Int) hc1 (by omega)
    simp only [cond_true, q2, bO, bindS]
    exact ⟨_, _, rfl, hc2, by simp only; omega⟩
  | false =>
  simp only [cond_false, bindS]
  obtain ⟨z, e, hz⟩ := loopO_ind (L_s_l18Event_r0_0_r95_1_0 P_s_l1Once w) (fun l => (20 - l.1).toNat)
    (fun l => 0 ≤ l.1 ∧ l.1 ≤ 20 ∧ l.2.1 = 6 ∧ l.2.2.1 = 0 ∧ Cur (l.2.2.2.1, (l.2.2.2.2.1, l.2.2.2.2.2.1)) ∧ (l.2.2.2.2.2.2.1.length : Int) = l.1) (fun z => z.2.2.1 = w ∧ Cur z.2.1 ∧ z.1.2.1 = 0) (fun l hl => by
      obtain ⟨g0, g1, g2, g3, g4, g5⟩ := hl
      simp only [L_s_l18Event_r0_0_r95_1_0]
      by_cases hi : l.1 < 20
      · obtain ⟨b, c', q, hc'⟩ := l1Once_ok _ 2 g4 (by omega)
        rw [dec_true hi, q]
        simp only [cond_true, bO]
        rw [dec_true (by simp; omega), dec_true (by simp; omega), w64 (by omega) (by omega)]
        exact .inl ⟨_, rfl, ⟨by simp only; omega, by simp only; omega, g2, g3, hc', by simp; omega⟩, by simp only; omega⟩
      · rw [dec_false hi]
        exact .inr ⟨_, rfl, rfl, g4, g3⟩) (0, 6, 0, c1.1, c1.2.1, c1.2.2, [], ()) ⟨by simp, by simp, rfl, rfl, hc1, rfl⟩
  obtain ⟨ev, c', w', u⟩ := z
  obtain ⟨z1, z2, z3⟩ := hz
  simp only at z1 z2 z3
  subst z1
  exact ⟨ev, c', e, z2, by omega⟩
/-- The world of a new server and clients. -/
def freshW (n : Int) (cls : List TClient) : TWorld := (newServer n, cls, List.replicate cls.length false, [], [], List.replicate cls.length (-1))
def emptyW : TWorld := ((((([], []), (0, (0, []))), []), ([], ([], ([], ([], []))))) : TWorld)
theorem s_worldNew_eq (n : Int) (cls : List TClient) (hl : cls.length ≤ 1000) (hc : ∀ c ∈ cls, c.1.size ≤ maxLen ∧ c.2.1.length ≤ 140737488355328) : ∃ w, P_s_WorldNew n cls = some (w, ()) ∧ (w = freshW n cls ∨ w = emptyW) := by
  have hd := newDisk_len n
  have ks : loopO (L_s_WorldNew_0 P_s_l17Copy cls) (0, 0, 0, (newDisk n).1, (newDisk n).2, [], [], [], [], [], ()) = some (0, 0, (newDisk n).1, (newDisk n).2, [], [], cls, List.replicate cls.length false, List.replicate cls.length (-1), ()) := by
    have key := loopO_count (L_s_WorldNew_0 P_s_l17Copy cls) (fun i => ((i : Int), 0, 0, (newDisk n).1, (newDisk n).2, [], [], cls.take i, List.replicate i false, List.replicate i (-1), ())) cls.length (0, 0, (newDisk n).1, (newDisk n).2, [], [], cls, List.replicate cls.length false, List.replicate cls.length (-1), ()) (fun i hi => ?_) ?_
    · simpa using key
    · have g1 : (i : Int) < (cls.length : Int) := by omega
      have g2 : (0 : Int) ≤ (i : Int) := by omega
      simp only [L_s_WorldNew_0, dec_true g1, dec_true g2, cond_true]
      rw [rd_nat (k := kClient) (xs := cls) hi, l17Copy_eq _ (hc _ (List.getElem_mem hi)).2]
      simp only [bindO]
      rw [dec_true (by simp; omega), dec_true (by simp; omega), dec_true (by simp; omega), dec_true (by simp; omega), dec_true (by simp; omega), dec_true (by simp; omega), w64 (by omega) (by omega), List.take_succ_eq_append_getElem hi, List.replicate_succ', List.replicate_succ']
      rfl
    · simp [L_s_WorldNew_0]
  have hsec : Secs (newDisk n).1 := by
    refine ⟨by omega, fun s hs => ?_⟩
    unfold newDisk at hs
    split at hs
    · rw [List.eq_of_mem_replicate hs]; exact Nat.zero_le _
    · cases hs
  have hw : WorS (freshW n cls) := ⟨hsec, by simp [freshW, newServer], ⟨by show cls.length ≤ _; omega, fun c h => (hc c h).1⟩, ⟨by simp [freshW], fun a ha => by cases ha⟩, by simp [freshW]⟩
  obtain ⟨b, hb, hi⟩ := worldOk_eq (freshW n cls) hw
  simp only [P_s_WorldNew, B_s_WorldNew, s_ServerNew_eq, bindO]
  have es : loopO (L_s_WorldNew_0 P_s_l17Copy cls) (0, (newServer n).1.2.1, (newServer n).1.2.2.1, (newServer n).1.1.1, (newServer n).1.1.2, (newServer n).1.2.2.2, (newServer n).2, [], [], [], ()) = _ := ks
  rw [es]
  have hb' : P_s_WorldOk (((((newDisk n).1, (newDisk n).2), ((0 : Int), ((0 : Int), []))), []), (cls, (List.replicate cls.length false, ([], ([], List.replicate cls.length (-1)))))) = some (b, ()) := hb
  simp only [hb']
  cases b with
  | false => exact ⟨_, rfl, .inr rfl⟩
  | true => exact ⟨_, rfl, .inl rfl⟩
def abc : List ByteArray := [(⟨#[97]⟩ : ByteArray), (⟨#[98]⟩ : ByteArray), (⟨#[99]⟩ : ByteArray)]
theorem abc_inj : ∀ i j : Nat, i < 3 → j < 3 → abc[i]? = abc[j]? → i = j := by
  have ne : ∀ a b : UInt8, (⟨#[a]⟩ : ByteArray) = ⟨#[b]⟩ → a = b := fun a b e => by
    injection e with e; injection e with e; injection e
  intro i j hi hj
  have h : ∀ (a b : UInt8), a ≠ b → (some (⟨#[a]⟩ : ByteArray) = some ⟨#[b]⟩ → i = j) := fun a b hne e => absurd (ne a b (Option.some.inj e)) hne
  match i, j, hi, hj with
  | 0, 0, _, _ => exact fun _ => rfl
  | 1, 1, _, _ => exact fun _ => rfl
  | 2, 2, _, _ => exact fun _ => rfl
  | 0, 1, _, _ => exact fun e => absurd (ne 97 98 (Option.some.inj e)) (by decide)
  | 0, 2, _, _ => exact fun e => absurd (ne 97 99 (Option.some.inj e)) (by decide)
  | 1, 0, _, _ => exact fun e => absurd (ne 98 97 (Option.some.inj e)) (by decide)
  | 1, 2, _, _ => exact fun e => absurd (ne 98 99 (Option.some.inj e)) (by decide)
  | 2, 0, _, _ => exact fun e => absurd (ne 99 97 (Option.some.inj e)) (by decide)
  | 2, 1, _, _ => exact fun e => absurd (ne 99 98 (Option.some.inj e)) (by decide)
theorem abc_ok : ∀ s ∈ abc, idB s = true ∧ s.size = 1 := by
  intro s hs
  simp only [abc, List.mem_cons, List.not_mem_nil, or_false] at hs
  rcases hs with rfl | rfl | rfl <;> exact ⟨by decide, rfl⟩
/-- Clients of a drawn world: new ones, of ids that differ. -/
structure NewC (j : Int) (cls : List TClient) : Prop where
  n : (cls.length : Int) + j ≤ 3
  ok : ∀ a ∈ cls, ClG a ∧ a.2.2.1 = 1 ∧ ∃ i : Nat, i < 3 ∧ j ≤ (i : Int) ∧ abc[i]? = some a.1
  dist : ∀ (p q : Nat) (a b : TClient), cls[p]? = some a → cls[q]? = some b → a.1 = b.1 → p = q
theorem newC_add {j : Nat} {cls : List TClient} (h : NewC ((j : Int) + 1) cls) {a : TClient} (ha : ClG a) (h1 : a.2.2.1 = 1) (hid : abc[j]? = some a.1) : NewC (j : Int) (cls ++ [a]) := by
  have hn := h.n
  have get : ∀ (p : Nat) (x : TClient), (cls ++ [a])[p]? = some x → (p < cls.length ∧ cls[p]? = some x) ∨ (p = cls.length ∧ x = a) := fun p x hx => by
    rcases Nat.lt_or_ge p cls.length with hp | hp
    · rw [List.getElem?_append_left hp] at hx; exact .inl ⟨hp, hx⟩
    · rw [List.getElem?_append_right hp] at hx
      have := (List.getElem?_eq_some_iff.1 hx).1
      simp at this
      obtain rfl : p = cls.length := by omega
      rw [Nat.sub_self] at hx
      injection hx with hx
      exact .inr ⟨rfl, hx.symm⟩
  have diff : ∀ x ∈ cls, x.1 ≠ a.1 := fun x hx e => by
    obtain ⟨_, _, i, hi3, hi, g⟩ := h.ok x hx
    rw [e, ← hid] at g
    have := abc_inj i j hi3 (by have := (List.getElem?_eq_some_iff.1 hid).1; simpa [abc] using this) g
    omega
  refine ⟨by simp; omega, fun x hx => ?_, fun p q x y hx hy e => ?_⟩
  · rcases List.mem_append.1 hx with hx | hx
    · obtain ⟨g1, g2, i, g3, g4, g5⟩ := h.ok x hx
      exact ⟨g1, g2, i, g3, by omega, g5⟩
    · rw [List.mem_singleton] at hx; subst hx
      have := (List.getElem?_eq_some_iff.1 hid).1
      exact ⟨ha, h1, j, by simpa [abc] using this, Int.le_refl _, hid⟩
  · rcases get p x hx with ⟨hp, gx⟩ | ⟨hp, rfl⟩ <;> rcases get q y hy with ⟨hq, gy⟩ | ⟨hq, rfl⟩
    · exact h.dist p q x y gx gy e
    · exact absurd e (diff x (List.mem_of_getElem? gx))
    · exact absurd e.symm (diff y (List.mem_of_getElem? gy))
    · omega
theorem wi_new {n : Int} (hn : n ≤ 200) {cls : List TClient} (h : NewC 0 cls) : WIw 0 (((newDisk n, (0, (0, []))), []), (cls, (List.replicate cls.length false, ([], ([], List.replicate cls.length (-1)))))) := by
  obtain ⟨⟨c, hd⟩, hep, _⟩ := newDisk_drawn n hn
  have hsc : scanL (newDisk n).1 = [] := by
    have h1 : (0 : Int) = ((scanL (newDisk n).1).length : Int) := by
      rcases hd.g with ⟨_, _, _, h4, _⟩
      exact h4
    exact List.eq_nil_of_length_eq_zero (by omega)
  have hl := h.n
  have hrep : ∀ {α : Type} (v : α) (i : Nat) (x : α), (List.replicate cls.length v)[i]? = some x → x = v := fun v i x hx => (List.mem_replicate.1 (List.mem_of_getElem? hx)).2
  refine wiw (c := c) (uc := []) {
    dur := hd
    ep := hep
    nd := fun r hr => by rw [hsc] at hr; cases hr
    fuc := by rw [hsc, List.take_nil]; rfl
    n6 := by omega
    lb := List.length_replicate
    lt := List.length_replicate
    dist := h.dist
    cl := fun i a ha => (h.ok a (List.mem_of_getElem? ha)).1
    cnt := fun i b hb => by rw [hrep _ _ _ hb]; rfl
    dn := fun i a ha h5 => by have := (h.ok a (List.mem_of_getElem? ha)).2.1; omega
    ask := fun a ha => by cases ha
    hld := fun a ha => by cases ha
    tell := fun a ha => by cases ha
    bst := fun i a b ha hb => .inl (hrep _ _ _ hb)
    ends := fun i a ha h5 => by have := (h.ok a (List.mem_of_getElem? ha)).2.1; omega
    oku := fun u hu => by cases hu
    la := Nat.zero_le _
    l6 := Nat.zero_le _
    lh := Nat.zero_le _ }
theorem drawCls_ok (c : TL1Cur) (h : Cur c) (j : Int) (hj : 0 ≤ j ∧ j ≤ 3) : ∃ y c', loopO (L_s_l18Draw_r0_0_r99_0_0 P_s_ClientNew P_s_l1Bytes_r0_0 P_s_l1Int) (j, c.1, c.2.1, c.2.2, [], ()) = some (c'.1, c'.2.1, c'.2.2, y, ()) ∧ Cur c' ∧ NewC 0 y := by
  obtain ⟨z, e, hz⟩ := loopO_ind (L_s_l18Draw_r0_0_r99_0_0 P_s_ClientNew P_s_l1Bytes_r0_0 P_s_l1Int) (fun l => l.1.toNat)
    (fun l => 0 ≤ l.1 ∧ l.1 ≤ 3 ∧ Cur (l.2.1, (l.2.2.1, l.2.2.2.1)) ∧ NewC l.1 l.2.2.2.2.1) (fun z => Cur (z.1, (z.2.1, z.2.2.1)) ∧ NewC 0 z.2.2.2.1) (fun l hl => by
      obtain ⟨g0, g1, g2, g3⟩ := hl
      simp only [L_s_l18Draw_r0_0_r99_0_0]
      by_cases hi : l.1 > 0
      · obtain ⟨m, hm⟩ : ∃ m : Nat, l.1 = (m : Int) + 1 := ⟨(l.1 - 1).toNat, by omega⟩
        have w1 : IntKind.i64.wrap (l.1 - 1) = (m : Int) := by rw [w64 (by omega) (by omega)]; omega
        obtain ⟨n, c1, q1, h1, hn⟩ := l1Int_ok _ [0, 5, 24, 60, 50] g2 (by simp)
        have hn2 : 0 ≤ n ∧ n ≤ 60 := by
          simp only [List.mem_cons, List.not_mem_nil, or_false] at hn
          omega
        obtain ⟨dat, c2, q2, h2, hl2, hb2⟩ := l1Bytes_ok c1 n h1 (by omega)
        have hm3 : m < 3 := by omega
        have hmabc : m < abc.length := hm3
        have hrd : rd .str [(⟨#[97]⟩ : ByteArray), (⟨#[98]⟩ : ByteArray), (⟨#[99]⟩ : ByteArray)] (m : Int) = abc[m] := rd_str (xs := abc) hmabc
        obtain ⟨hid, hsz⟩ := abc_ok _ (List.getElem_mem hmabc)
        have hok : clientOkB (abc[m], dat, 1, 0) = true := by
          simp only [clientOkB, Bool.and_eq_true, decide_eq_true_eq]
          refine ⟨⟨⟨hid, by omega⟩, by omega⟩, by omega⟩
        have hlen := g3.n
        have q3 := s_ClientNew_eq abc[m] dat (by simp only [maxLen]; omega) (by omega)
        simp only [clientNew, hok, if_true] at q3
        rw [dec_true hi, w1, dec_true (show (0 : Int) ≤ (m : Int) by omega), dec_true (by simp; omega), q1]
        simp only [cond_true, bO, q2, hrd, q3]
        rw [dec_true (by simp; omega), dec_true (by simp; omega)]
        refine .inl ⟨_, rfl, ⟨by simp only; omega, by simp only; omega, h2, ?_⟩, by simp only; omega⟩
        refine newC_add (by rw [← hm]; exact g3) ⟨hok, by show (1 : Int) ≠ 6; omega, hb2, fun h => by cases h⟩ rfl (List.getElem?_eq_getElem hmabc)
      · rw [dec_false hi]
        have e0 : l.1 = 0 := by omega
        rw [e0] at g3
        exact .inr ⟨_, rfl, g2, g3⟩) (j, c.1, c.2.1, c.2.2, [], ()) ⟨hj.1, hj.2, h, ⟨by simp; omega, fun a ha => by (cases ha), fun p q a b ha => by (simp at ha)⟩⟩
  exact ⟨z.2.2.2.1, (z.1, (z.2.1, z.2.2.1)), e, hz.1, hz.2⟩
theorem wi_lens {k : Nat} {w : TWorld} (h : WIw k w) : w.2.1.length ≤ 6 ∧ w.2.2.2.1.length ≤ 60 ∧ w.2.2.2.2.1.length ≤ 60 := by
  obtain ⟨c, uc, h⟩ := h
  exact ⟨h.n6, h.la, h.l6⟩
theorem wi_le {k k' : Nat} {w : TWorld} (h : WIw k w) (hk : k ≤ k') : WIw k' w := by
  obtain ⟨c, uc, h⟩ := h
  exact ⟨c, uc, { h with ep := by have := h.ep; omega }⟩
theorem l18Draw_ok (c : TL1Cur) (n : Int) (hc : Cur c) (hn : 0 < n ∧ n ≤ 1000) : ∃ w c', P_s_l18Draw_r0_0_r99_0 c n = some (w, c', ()) ∧ WIw 1000 w ∧ Cur c' := by
  obtain ⟨m, c1, q1, h1, hm⟩ := l1Int_ok c [1, 2, 3] hc (by simp)
  have hm2 : 0 ≤ m ∧ m ≤ 3 := by
    simp only [List.mem_cons, List.not_mem_nil, or_false] at hm
    omega
  obtain ⟨cls, c2, q2, h2, hcls⟩ := drawCls_ok c1 h1 m hm2
  have hcn := hcls.n
  obtain ⟨w, q3, hw⟩ := s_worldNew_eq 40 cls (by omega) (fun x hx => by
    obtain ⟨g, _⟩ := hcls.ok x hx
    have := (cl_facts g).2.1
    exact ⟨cl_size g, by omega⟩)
  have hw0 : WIw 0 w := by
    rcases hw with rfl | rfl
    · exact wi_new (n := 40) (by omega) hcls
    · exact wi_new (n := -1) (by omega) (cls := []) ⟨by simp, fun a ha => by (cases ha), fun p q a b ha => by (simp at ha)⟩
  obtain ⟨k, c3, q4, h3, k0, k1⟩ := l1Below_ok c2 n h2 (by omega)
  have q4' : P_s_l1Below (c2.1, (c2.2.1, c2.2.2)) n = _ := q4
  simp only [P_s_l18Draw_r0_0_r99_0, B_s_l18Draw_r0_0_r99_0, q1, q2, q3, q4', bO]
  obtain ⟨z, e, hz⟩ := loopO_ind (L_s_l18Draw_r0_0_r99_0_1 P_s_l18Do_W P_s_l18Event_r0_0_r95_1) (fun l => l.1.toNat)
    (fun l => ∃ j : Nat, l.1 ≤ 1000 - (j : Int) ∧ j ≤ 1000 ∧ WIw j ((((l.2.1, l.2.2.1), (l.2.2.2.1, (l.2.2.2.2.1, l.2.2.2.2.2.1))), l.2.2.2.2.2.2.2.2.2.1), (l.2.2.2.2.2.2.2.2.2.2.1, (l.2.2.2.2.2.2.2.2.2.2.2.1, (l.2.2.2.2.2.2.2.2.2.2.2.2.1, (l.2.2.2.2.2.2.2.2.2.2.2.2.2.1, l.2.2.2.2.2.2.2.2.2.2.2.2.2.2.1))))) ∧ Cur (l.2.2.2.2.2.2.1, (l.2.2.2.2.2.2.2.1, l.2.2.2.2.2.2.2.2.1))) (fun z => WIw 1000 z.1 ∧ Cur z.2.1) (fun l hl => by
      obtain ⟨j, g0, gj, g1, g2⟩ := hl
      obtain ⟨w1, w2, w3⟩ := wi_lens g1
      simp only [L_s_l18Draw_r0_0_r99_0_1]
      by_cases hi : l.1 > 0
      · obtain ⟨ev, c', e, hc', hev⟩ := l18Event_ok _ _ g2 (Nat.le_trans w1 (by omega)) (Nat.le_trans w2 (by omega)) (Nat.le_trans w3 (by omega))
        obtain ⟨b, w', q, hw'⟩ := do_all j (by omega) _ g1 ev hev
        rw [dec_true hi, e]
        simp only [cond_true, bO]
        rw [q]
        simp only [bO]
        rw [w64 (by omega) (by omega)]
        exact .inl ⟨_, rfl, ⟨j + 1, by simp only; omega, by omega, hw', hc'⟩, by simp only; omega⟩
      · rw [dec_false hi]
        exact .inr ⟨_, rfl, wi_le g1 gj, g2⟩) (k, w.1.1.1.1, w.1.1.1.2, w.1.1.2.1, w.1.1.2.2.1, w.1.1.2.2.2, c3.1, c3.2.1, c3.2.2, w.1.2, w.2.1, w.2.2.1, w.2.2.2.1, w.2.2.2.2.1, w.2.2.2.2.2, ()) ⟨0, by simp only; omega, by omega, hw0, h3⟩
  exact ⟨z.1, z.2.1, e, hz⟩
theorem drawWorld_ok (a : List Int) (h : a.length ≤ 1048576) : ∃ w, P_s_DrawWorld_r99_0 a = some (w, ()) ∧ WIw 1000 w := by
  obtain ⟨c, q, hc⟩ := l1New_ok a h
  obtain ⟨s, qs, hs⟩ : ∃ s, P_s_l1Size a 100 = some (s, ()) ∧ 0 ≤ s ∧ s ≤ 100 := by
    have ht : (a.length : Int).tdiv 12 = (a.length : Int) / 12 := Int.tdiv_eq_ediv_of_nonneg (by omega)
    simp only [P_s_l1Size, B_s_l1Size, ht]
    rw [w64 (n := (a.length : Int) / 12) (by omega) (by omega), w64 (by omega) (by omega)]
    by_cases h1 : 3 + (a.length : Int) / 12 > 100
    · rw [dec_true h1]; exact ⟨_, rfl, by omega⟩
    · rw [dec_false h1]; exact ⟨_, rfl, by omega⟩
  obtain ⟨w, c', e, hw, _⟩ := l18Draw_ok c (IntKind.i64.wrap (20 + s)) hc (by rw [w64 (by omega) (by omega)]; omega)
  simp only [P_s_DrawWorld_r99_0, B_s_DrawWorld_r99_0, q, qs, e, bO]
  exact ⟨w, rfl, hw⟩
theorem exactTop (a : List Int) : P_w_FnTop a = some (true, ()) := by
  simp only [P_w_FnTop, B_w_FnTop, P_w_big, B_w_big, bO]
  by_cases ha : (a.length : Int) > 1048576
  · rw [dec_true ha]; rfl
  rw [dec_false ha]
  obtain ⟨w, q, hw⟩ := drawWorld_ok a (by omega)
  obtain ⟨o1, o2⟩ := wi_worldOk hw
  obtain ⟨s1, s2, s3, s4, i1, i2, i3, i4⟩ := wi_safe hw
  simp only [cond_false, q, P_i_Safe, B_i_Safe, P_s_Safe, B_s_Safe, o1, o2, s1, s2, s3, s4, i1, i2, i3, i4, bO, Bool.not_true, cond_true]
  rfl
end Go.Proofs.YtpdcljonclhhpaaGreat.Ev
