/- Uploads in order: what a record makes of them, of the program and of the reference. -/
import Derived.Test.YtmdbndbfhgdhfaaGreatC1
set_option linter.unusedVariables false
set_option linter.unusedSimpArgs false
namespace Go.Proofs.YtmdbndbfhgdhfaaGreat.Ev

theorem bl_irrefl : ∀ x : List UInt8, Op.bytesLess x x = false
  | [] => rfl
  | a :: x => by
    have h : ¬ a < a := UInt8.lt_irrefl a
    simp [Op.bytesLess, bl_irrefl x, h]
theorem bl_trans : ∀ {x y z : List UInt8}, Op.bytesLess x y = true → Op.bytesLess y z = true → Op.bytesLess x z = true
  | _, [], _, h, _ => by cases ‹List UInt8› <;> simp [Op.bytesLess] at h
  | _, _ :: _, [], _, h => by simp [Op.bytesLess] at h
  | [], _ :: _, _ :: _, _, _ => rfl
  | a :: x, b :: y, c :: z, h1, h2 => by
    simp only [Op.bytesLess, Bool.or_eq_true, Bool.and_eq_true, decide_eq_true_eq, beq_iff_eq] at h1 h2 ⊢
    rcases h1 with h1 | ⟨rfl, h1⟩
    · rcases h2 with h2 | ⟨rfl, h2⟩
      · exact .inl (UInt8.lt_trans h1 h2)
      · exact .inl h1
    · rcases h2 with h2 | ⟨rfl, h2⟩
      · exact .inl h2
      · exact .inr ⟨rfl, bl_trans h1 h2⟩
theorem bl_total : ∀ {x y : List UInt8}, Op.bytesLess x y = false → Op.bytesLess y x = false → x = y
  | [], [], _, _ => rfl
  | [], _ :: _, h, _ => by simp [Op.bytesLess] at h
  | _ :: _, [], _, h => by simp [Op.bytesLess] at h
  | a :: x, b :: y, h1, h2 => by
    simp only [Op.bytesLess, Bool.or_eq_false_iff, decide_eq_false_iff_not, Bool.and_eq_false_iff, beq_eq_false_iff_ne] at h1 h2
    have hab : a = b := by
      apply UInt8.le_antisymm
      · exact UInt8.not_lt.1 h2.1
      · exact UInt8.not_lt.1 h1.1
    subst hab
    exact congrArg (a :: ·) (bl_total (by simpa using h1.2) (by simpa using h2.2))
theorem bl_asymm {x y : List UInt8} (h : Op.bytesLess x y = true) : Op.bytesLess y x = false := by
  cases e : Op.bytesLess y x with
  | false => rfl
  | true => have := bl_trans h e; rw [bl_irrefl] at this; cases this

/-- Uploads in the order of their names. -/
def Ord (us : List TUp) : Prop := us.Pairwise fun a b => Op.bytesLess a.1.toList b.1.toList = true
theorem ord_at {us : List TUp} (h : Ord us) {i j : Nat} (hij : i < j) (hj : j < us.length) : Op.bytesLess (us[i]'(by omega)).1.toList us[j].1.toList = true := List.pairwise_iff_getElem.1 h i j (by omega) hj hij

/-- Where an upload would stand. -/
def upIns (us : List TUp) (id : ByteArray) : Nat := firstN (fun i => Op.bytesLess (rd kUp us (i : Int)).1.toList id.toList) 0 us.length
def upHas (us : List TUp) (id : ByteArray) : Bool := decide (upIns us id < us.length) && ((rd kUp us (upIns us id : Int)).1.toList == id.toList)

theorem firstN_goes (go : Nat → Bool) : ∀ k i j, i ≤ j → j < firstN go i k → go j = true
  | 0, i, j, h1, h2 => by simp only [firstN] at h2; omega
  | k + 1, i, j, h1, h2 => by
    simp only [firstN] at h2
    split at h2
    · rename_i hg
      by_cases e : j = i
      · rw [e]; exact hg
      · exact firstN_goes go k (i + 1) j (by omega) h2
    · omega
theorem firstN_uniq (go : Nat → Bool) (n p : Nat) (hp : p ≤ n) (h1 : ∀ j, j < p → go j = true) (h2 : p < n → go p = false) : firstN go 0 n = p := by
  have hl := firstN_le go n 0
  rcases Nat.lt_trichotomy (firstN go 0 n) p with h | h | h
  · have := firstN_fails go n 0 (by omega)
    rw [h1 _ h] at this; cases this
  · exact h
  · have := firstN_goes go n 0 p (by omega) h
    rw [h2 (by omega)] at this; cases this

theorem upIns_le (us : List TUp) (id : ByteArray) : upIns us id ≤ us.length := by have := firstN_le (fun i => Op.bytesLess (rd kUp us (i : Int)).1.toList id.toList) us.length 0; unfold upIns; omega
theorem upIns_lo {us : List TUp} {id : ByteArray} {j : Nat} (hj : j < upIns us id) : Op.bytesLess (us[j]'(by have := upIns_le us id; omega)).1.toList id.toList = true := by
  have := firstN_goes _ us.length 0 j (by omega) hj
  rwa [rd_nat (k := kUp) (xs := us) (by have := upIns_le us id; omega)] at this
theorem upIns_at {us : List TUp} {id : ByteArray} (h : upIns us id < us.length) : Op.bytesLess us[upIns us id].1.toList id.toList = false := by
  have := firstN_fails (fun i => Op.bytesLess (rd kUp us (i : Int)).1.toList id.toList) us.length 0 (by unfold upIns at h; omega)
  have h2 : Op.bytesLess (rd kUp us (upIns us id : Int)).1.toList id.toList = false := this
  rwa [rd_nat (k := kUp) (xs := us) h] at h2
theorem upIns_hi {us : List TUp} (ho : Ord us) {id : ByteArray} {j : Nat} (hj : upIns us id ≤ j) (hl : j < us.length) : Op.bytesLess us[j].1.toList id.toList = false := by
  rcases Nat.eq_or_lt_of_le hj with e | h
  · subst e; exact upIns_at hl
  · cases e : Op.bytesLess us[j].1.toList id.toList with
    | false => rfl
    | true =>
      have := bl_trans (ord_at ho h hl) e
      rw [upIns_at (by omega)] at this
      cases this
theorem upHas_iff {us : List TUp} {id : ByteArray} : upHas us id = true ↔ ∃ h : upIns us id < us.length, us[upIns us id].1.toList = id.toList := by
  unfold upHas
  constructor
  · intro h
    simp only [Bool.and_eq_true, decide_eq_true_eq, beq_iff_eq] at h
    refine ⟨h.1, ?_⟩
    have h2 := h.2
    rwa [rd_nat (k := kUp) (xs := us) h.1] at h2
  · rintro ⟨h, e⟩
    simp only [Bool.and_eq_true, decide_eq_true_eq, beq_iff_eq]
    refine ⟨h, ?_⟩
    rw [rd_nat (k := kUp) (xs := us) h]
    exact e
/-- Where there is no such upload, all from its place on are greater. -/
theorem upIns_gt {us : List TUp} (ho : Ord us) {id : ByteArray} (hn : upHas us id = false) {j : Nat} (hj : upIns us id ≤ j) (hl : j < us.length) : Op.bytesLess id.toList us[j].1.toList = true := by
  cases e : Op.bytesLess id.toList us[j].1.toList with
  | true => rfl
  | false =>
    have h1 := bl_total (upIns_hi ho hj hl) e
    exfalso
    rcases Nat.eq_or_lt_of_le hj with e2 | h
    · subst e2
      have := upHas_iff.2 ⟨hl, h1⟩
      rw [hn] at this; cases this
    · have h2 := ord_at ho h hl
      rw [h1, upIns_at (by omega)] at h2
      cases h2

theorem upIx_has {us : List TUp} (ho : Ord us) {id : ByteArray} (h : upHas us id = true) : upIx us id = upIns us id := by
  obtain ⟨hl, e⟩ := upHas_iff.1 h
  refine firstN_uniq _ us.length _ (upIns_le us id) (fun j hj => ?_) (fun _ => ?_)
  · rw [rd_nat (k := kUp) (xs := us) (by omega)]
    have h1 := upIns_lo hj
    cases e2 : ((us[j]'(by omega)).1.toList == id.toList) with
    | false => rfl
    | true =>
      rw [eq_of_beq e2, bl_irrefl] at h1
      cases h1
  · rw [rd_nat (k := kUp) (xs := us) hl, e]
    simp
theorem upIx_not {us : List TUp} (ho : Ord us) {id : ByteArray} (h : upHas us id = false) : upIx us id = us.length := by
  refine firstN_uniq _ us.length _ (Nat.le_refl _) (fun j hj => ?_) (fun h => by omega)
  rw [rd_nat (k := kUp) (xs := us) hj]
  cases e2 : (us[j].1.toList == id.toList) with
  | false => rfl
  | true =>
    exfalso
    have e3 := eq_of_beq e2
    by_cases hp : j < upIns us id
    · have h1 := upIns_lo hp
      rw [e3, bl_irrefl] at h1
      cases h1
    · have h1 := upIns_gt ho h (show upIns us id ≤ j by omega) hj
      rw [e3, bl_irrefl] at h1
      cases h1

theorem i_upAt_eq (us : List TUp) (id : ByteArray) (h : us.length ≤ maxLen) : P_i_upAt us id = some ((upIns us id : Int), upHas us id, ()) := by
  simp only [P_i_upAt, B_i_upAt]
  have e := loopO_first (L_i_upAt_0 us id) (fun i => ((i : Int), ())) us.length (fun i => ((i : Int), ())) (fun i => Op.bytesLess (rd kUp us (i : Int)).1.toList id.toList) (fun i hi => ?_) ?_
  · have e' : loopO (L_i_upAt_0 us id) (0, ()) = some ((upIns us id : Int), ()) := e
    rw [e']
    simp only [bindO]
    have hle := upIns_le us id
    unfold upHas
    by_cases hl : upIns us id < us.length
    · rw [dec_true (show (upIns us id : Int) < (us.length : Int) by omega), dec_true (show (0 : Int) ≤ (upIns us id : Int) by omega), dec_true hl]
      simp
    · rw [dec_false (show ¬ (upIns us id : Int) < (us.length : Int) by omega), dec_false hl]
      simp
  · have h1 : ((i : Int) < (us.length : Int)) := by omega
    have h2 : (0 : Int) ≤ (i : Int) := by omega
    simp only [L_i_upAt_0, dec_true h1, dec_true h2, cond_true]
    rw [w64 (by omega) (by simp only [maxLen] at h; omega)]
    cases Op.bytesLess (rd kUp us (i : Int)).1.toList id.toList <;> simp
  · simp [L_i_upAt_0]

theorem copyUps_eq (us : List TUp) (h : us.length ≤ 1048576) (hd : ∀ u ∈ us, List.length u.2.2.1 ≤ 2000000000) : P_s_l14CopyUps us = some (us, ()) := by
  simp only [P_s_l14CopyUps, B_s_l14CopyUps]
  have key := loopO_count (L_s_l14CopyUps_0 us) (fun i => ((i : Int), us.take i, ())) us.length (us, ()) (fun i hi => ?_) ?_
  · simpa using key
  · have h1 : ((i : Int) < (us.length : Int)) := by omega
    have h2 : (0 : Int) ≤ (i : Int) := by omega
    have hu : List.length (rd kUp us (i : Int)).2.2.1 ≤ 2000000000 := by
      rw [rd_nat (k := kUp) (xs := us) hi]
      exact hd _ (List.getElem_mem hi)
    have e : ((rd kUp us (i : Int)).1, (rd kUp us (i : Int)).2.1, [] ++ (rd kUp us (i : Int)).2.2.1, (rd kUp us (i : Int)).2.2.2) = us[i] := by
      rw [rd_nat (k := kUp) (xs := us) hi]
      rfl
    simp only [L_s_l14CopyUps_0, dec_true h1, dec_true h2, cond_true, e]
    rw [dec_true (by simp; omega), dec_true (by simp; omega), dec_true (by simp; omega), dec_true (by simp; omega), w64 (by omega) (by omega)]
    simp only [cond_true]
    rw [List.take_succ_eq_append_getElem hi]
    rfl
  · simp [L_s_l14CopyUps_0]

/-- The reference's upload in order: somewhere; at its place, if it is not there yet. -/
theorem l14Make_eq (us : List TUp) (u : TUp) (ho : Ord us) (h : us.length ≤ 1048576) (hd : ∀ u ∈ us, List.length u.2.2.1 ≤ 2000000000) :
    ∃ k, k ≤ us.length ∧ P_s_l14Make_r98_0_r99_0 us u = some (us.take k ++ u :: us.drop k, ()) ∧ (upHas us u.1 = false → k = upIns us u.1) := by
  simp only [P_s_l14Make_r98_0_r99_0, B_s_l14Make_r98_0_r99_0, copyUps_eq us h hd, bindO]
  rw [dec_true (by simp; omega), dec_true (by simp; omega)]
  simp only [cond_true]
  have hst : IntKind.i64.wrap (((us ++ [u]).length : Int) - 1) = (us.length : Int) := by
    rw [w64 (by simp only [List.length_append, List.length_singleton]; omega) (by simp only [List.length_append, List.length_singleton]; omega)]
    simp
  rw [hst]
  obtain ⟨z, e, k, hz1, hz2, hz3⟩ := loopO_ind (L_s_l14Make_r98_0_r99_0_0 u) (fun l => l.1.toNat)
    (fun l => ∃ (k : Nat) (c : TUp), l.1 = (k : Int) ∧ k ≤ us.length ∧ l.2.1 = us.take k ++ c :: us.drop k ∧ (upHas us u.1 = false → upIns us u.1 ≤ k))
    (fun z => ∃ k : Nat, k ≤ us.length ∧ (upHas us u.1 = false → k = upIns us u.1) ∧ ∃ c, z = ((k : Int), us.take k ++ c :: us.drop k, ())) (fun l hl => by
      obtain ⟨l1, l2, l3⟩ := l
      obtain ⟨k, c, h1, h2, h3, h4⟩ := hl
      simp only at h1 h3
      subst h1; subst h3
      simp only [L_s_l14Make_r98_0_r99_0_0]
      by_cases hk : k = 0
      · subst hk
        refine .inr ⟨_, by rw [dec_false (by omega)]; rfl, 0, by omega, fun q => ?_, c, rfl⟩
        have := h4 q; omega
      · obtain ⟨k, rfl⟩ : ∃ k', k = k' + 1 := ⟨k - 1, by omega⟩
        have hlen : (us.take (k + 1) ++ c :: us.drop (k + 1)).length = us.length + 1 := by simp; omega
        have ew : IntKind.i64.wrap (((k + 1 : Nat) : Int) - 1) = (k : Int) := by rw [w64 (by omega) (by omega)]; omega
        have hget : rd (.pair .str (.pair (.int .i64) (.pair (.rs 5 (.int .u8)) .bool))) (us.take (k + 1) ++ c :: us.drop (k + 1)) (k : Int) = us[k]'(by omega) := by
          rw [rd_nat (k := .pair .str (.pair (.int .i64) (.pair (.rs 5 (.int .u8)) .bool))) (xs := us.take (k + 1) ++ c :: us.drop (k + 1)) (by rw [hlen]; omega)]
          rw [List.getElem_append_left (by simp; omega), List.getElem_take]
        rw [dec_true (show ((k + 1 : Nat) : Int) > 0 by omega), ew, hlen, dec_true (show (0 : Int) ≤ (k : Int) by omega), dec_true (show (k : Int) < ((us.length + 1 : Nat) : Int) by omega), hget]
        simp only [cond_true]
        have hlen2 : (k : Int) + 1 = ((k + 1 : Nat) : Int) := by omega
        cases hc : (!(Op.bytesLess (us[k]'(by omega)).1.toList u.1.toList || ((us[k]'(by omega)).1.toList == u.1.toList))) with
        | false =>
          refine Or.inr ⟨(((k + 1 : Nat) : Int), us.take (k + 1) ++ c :: us.drop (k + 1), ()), rfl, k + 1, h2, fun q => ?_, c, rfl⟩
          have h5 := h4 q
          by_cases hkp : upIns us u.1 ≤ k
          · have h6 := upIns_gt ho q hkp (by omega)
            simp only [Bool.not_eq_false', Bool.or_eq_true, beq_iff_eq] at hc
            rcases hc with hc | hc
            · rw [bl_asymm h6] at hc; cases hc
            · rw [hc, bl_irrefl] at h6; cases h6
          · omega
        | true =>
          refine Or.inl ⟨((k : Int), us.take k ++ (us[k]'(by omega)) :: us.drop k, ()), ?_, ⟨k, us[k]'(by omega), rfl, by omega, rfl, fun q => ?_⟩, by simp only; omega⟩
          · simp only [cond_true, bindS]
            rw [dec_true (show (0 : Int) ≤ ((k + 1 : Nat) : Int) by omega), dec_true (show ((k + 1 : Nat) : Int) < ((us.length + 1 : Nat) : Int) by omega)]
            simp only [cond_true, bindO, Int.toNat_natCast]
            have e1 : (us.take (k + 1) ++ c :: us.drop (k + 1)).set (k + 1) (us[k]'(by omega)) = us.take k ++ (us[k]'(by omega)) :: us.drop k := by
              rw [List.set_append_right _ _ (by simp; omega)]
              rw [show (us.take (k + 1)).length = k + 1 by simp; omega, Nat.sub_self, List.set_cons_zero, List.take_succ_eq_append_getElem (by omega), List.append_assoc, List.drop_eq_getElem_cons (i := k) (by omega)]
              rfl
            rw [e1]
          · have h5 := h4 q
            by_cases hkp : k < upIns us u.1
            · have h6 := upIns_lo hkp
              rw [h6] at hc
              simp at hc
            · omega) ((us.length : Int), us ++ [u], ()) ⟨us.length, u, rfl, Nat.le_refl _, by simp, fun _ => upIns_le us u.1⟩
  obtain ⟨c, rfl⟩ := hz3
  rw [e]
  simp only
  have hlen : (us.take k ++ c :: us.drop k).length = us.length + 1 := by simp; omega
  rw [dec_true (by omega), dec_true (by rw [hlen]; omega)]
  simp only [cond_true, Int.toNat_natCast]
  refine ⟨k, hz1, ?_, hz2⟩
  rw [List.set_append_right _ _ (by simp; omega), show (us.take k).length = k by simp; omega, Nat.sub_self, List.set_cons_zero]

/-- A record that was read. -/
def RecG (r : TRec) : Prop := recOkB r = true ∧ Byt r.2.2.2.2.2
/-- An upload that a store may have. -/
def UpG (u : TUp) : Prop := (List.length u.2.2.1 : Int) ≤ u.2.1 ∧ u.2.1 ≤ 1000000000 ∧ u.1.size ≤ 8 ∧ Byt u.2.2.1
/-- Uploads that a store may have. -/
def Ups (us : List TUp) : Prop := Ord us ∧ us.length ≤ 10 ∧ ∀ u ∈ us, UpG u
theorem ups_nil : Ups [] := ⟨List.Pairwise.nil, by simp, fun u hu => by cases hu⟩
theorem ups_dat {us : List TUp} (h : Ups us) : ∀ u ∈ us, List.length u.2.2.1 ≤ 2000000000 := fun u hu => by have h1 := (h.2.2 u hu).1; have h2 := (h.2.2 u hu).2.1; omega

def setAt (us : List TUp) (p : Nat) (u : TUp) : List TUp := us.set p u
/-- What a record makes of uploads. -/
def foldOne (us : List TUp) (r : TRec) : Option (List TUp) :=
  let p := upIns us r.2.2.2.1
  let u := rd kUp us (p : Int)
  if r.2.2.1 = 1 then (if upHas us r.2.2.2.1 = true ∨ 10 ≤ us.length then none else some (us.take p ++ (r.2.2.2.1, r.2.2.2.2.1, [], false) :: us.drop p))
  else if upHas us r.2.2.2.1 = false then none
  else if r.2.2.1 = 2 then (if u.2.2.2 = true ∨ r.2.2.2.2.1 ≠ (List.length u.2.2.1 : Int) ∨ (List.length u.2.2.1 : Int) + (List.length r.2.2.2.2.2 : Int) > u.2.1 then none else some (us.set p (u.1, u.2.1, u.2.2.1 ++ r.2.2.2.2.2, u.2.2.2)))
  else if r.2.2.1 = 3 then (if u.2.2.2 = true ∨ (List.length u.2.2.1 : Int) ≠ u.2.1 then none else some (us.set p (u.1, u.2.1, u.2.2.1, true)))
  else if r.2.2.1 = 4 then some (us.take p ++ us.drop (p + 1))
  else none

def foldI (us : List TUp) (r : TRec) : List TUp × Bool × Unit := match foldOne us r with
  | some us' => (us', true, ())
  | none => ([], false, ())

theorem i_fold_eq (us : List TUp) (r : TRec) (h : Ups us) (h2 : List.length r.2.2.2.2.2 ≤ 1048576) : P_i_fold us r = some (foldI us r) := by
  have hl := h.2.1
  have hp := upIns_le us r.2.2.2.1
  simp only [P_i_fold, B_i_fold, i_upAt_eq us _ (show us.length ≤ maxLen by simp only [maxLen]; omega), bindO, foldI, foldOne]
  by_cases k1 : r.2.2.1 = 1
  · rw [dec_true k1, if_pos k1]
    simp only [cond_true]
    cases hh : upHas us r.2.2.2.1 with
    | true => simp [bindS]
    | false =>
      by_cases h10 : 10 ≤ us.length
      · rw [dec_true (show (us.length : Int) ≥ 10 by omega), if_pos (.inr h10)]
        rfl
      · rw [dec_false (show ¬ (us.length : Int) ≥ 10 by omega), if_neg (by simp; omega)]
        simp only [cond_false, bindS, P_slices_Insert_impl_Up_impl_Up, insFn]
        rw [dec_true (by omega), dec_true (by omega), dec_true (by simp), dec_true (by simp; omega)]
        simp [bindO]
  rw [dec_false k1, if_neg k1]
  simp only [cond_false]
  cases hh : upHas us r.2.2.2.1 with
  | false => simp
  | true =>
    obtain ⟨hlt, hid⟩ := upHas_iff.1 hh
    have hu : (List.length us[upIns us r.2.2.2.1].2.2.1 : Int) ≤ us[upIns us r.2.2.2.1].2.1 ∧ us[upIns us r.2.2.2.1].2.1 ≤ 1000000000 := ⟨(h.2.2 _ (List.getElem_mem hlt)).1, (h.2.2 _ (List.getElem_mem hlt)).2.1⟩
    have hrd : rd kUp us (upIns us r.2.2.2.1 : Int) = us[upIns us r.2.2.2.1] := rd_nat (k := kUp) (xs := us) hlt
    simp only [Bool.not_true, cond_false, Bool.true_eq_false, if_false]
    rw [dec_true (by omega), dec_true (by omega)]
    simp only [cond_true, Int.toNat_natCast, hrd]
    generalize us[upIns us r.2.2.2.1] = u at hu hid ⊢
    by_cases k2 : r.2.2.1 = 2
    · rw [dec_true k2, if_pos k2]
      simp only [cond_true]
      cases hd : u.2.2.2 with
      | true => simp [bindS]
      | false =>
        by_cases hn : r.2.2.2.2.1 = (List.length u.2.2.1 : Int)
        · rw [dec_true hn, w64 (by omega) (by omega)]
          by_cases hw : (List.length u.2.2.1 : Int) + (List.length r.2.2.2.2.2 : Int) > u.2.1
          · rw [dec_true hw, if_pos (.inr (.inr hw))]
            rfl
          · rw [dec_false hw, if_neg (by simp [hn]; omega)]
            simp only [Bool.not_true, cond_false, bindS]
            rw [dec_true (by omega), dec_true (by omega)]
            rfl
        · rw [dec_false hn, if_pos (.inr (.inl hn))]
          rfl
    rw [dec_false k2, if_neg k2]
    by_cases k3 : r.2.2.1 = 3
    · rw [dec_true k3, if_pos k3]
      simp only [cond_true, cond_false]
      cases hd : u.2.2.2 with
      | true => simp
      | false =>
        by_cases hn : (List.length u.2.2.1 : Int) = u.2.1
        · rw [dec_true hn, if_neg (by simp [hn])]
          rfl
        · rw [dec_false hn, if_pos (.inr hn)]
          rfl
    rw [dec_false k3, if_neg k3]
    by_cases k4 : r.2.2.1 = 4
    · rw [dec_true k4, if_pos k4, w64 (n := (upIns us r.2.2.2.1 : Int) + 1) (by omega) (by omega)]
      simp only [cond_true, cond_false, P_slices_Delete_impl_Up_impl_Up, delFn]
      rw [dec_true (by omega), dec_true (by omega), dec_true (by omega)]
      simp only [cond_true, Int.toNat_natCast]
      rw [show ((upIns us r.2.2.2.1 : Int) + 1).toNat = upIns us r.2.2.2.1 + 1 by omega]
    rw [dec_false k4, if_neg k4]
    rfl

theorem s_one_eq (us : List TUp) (r : TRec) (h : Ups us) (h2 : List.length r.2.2.2.2.2 ≤ 1048576) : ∃ x, P_s_l14One_r99_0 us r = some (x, (foldI us r).2.1, ()) ∧ ((foldI us r).2.1 = true → x = (foldI us r).1) := by
  have hl := h.2.1
  have hp := upIns_le us r.2.2.2.1
  have hat := l14At_eq us r.2.2.2.1 (show us.length ≤ maxLen by simp only [maxLen]; omega)
  have hcp := copyUps_eq us (by omega) (ups_dat h)
  obtain ⟨k, hk, hmk, hmk2⟩ := l14Make_eq us (r.2.2.2.1, r.2.2.2.2.1, [], false) h.1 (by omega) (ups_dat h)
  simp only [P_s_l14One_r99_0, B_s_l14One_r99_0, hat, hcp, hmk, bindO, foldI, foldOne]
  by_cases k1 : r.2.2.1 = 1
  · rw [dec_true k1, if_pos k1]
    simp only [cond_true]
    cases hh : upHas us r.2.2.2.1 with
    | true =>
      obtain ⟨hlt, hid⟩ := upHas_iff.1 hh
      rw [upIx_has h.1 hh, if_pos hlt, dec_false (by omega)]
      simp
    | false =>
      have hk2 := hmk2 hh
      simp only at hk2
      rw [upIx_not h.1 hh, if_neg (Nat.lt_irrefl _), dec_true (by omega)]
      simp only [cond_true]
      by_cases h10 : 10 ≤ us.length
      · rw [dec_false (by omega), if_pos (.inr h10)]
        simp
      · rw [dec_true (by omega), if_neg (by simp; omega), hk2]
        simp
  rw [dec_false k1, if_neg k1]
  simp only [cond_false]
  cases hh : upHas us r.2.2.2.1 with
  | false =>
    rw [upIx_not h.1 hh, if_neg (Nat.lt_irrefl _), dec_true (by omega)]
    simp
  | true =>
    obtain ⟨hlt, hid⟩ := upHas_iff.1 hh
    have hu : (List.length us[upIns us r.2.2.2.1].2.2.1 : Int) ≤ us[upIns us r.2.2.2.1].2.1 ∧ us[upIns us r.2.2.2.1].2.1 ≤ 1000000000 := ⟨(h.2.2 _ (List.getElem_mem hlt)).1, (h.2.2 _ (List.getElem_mem hlt)).2.1⟩
    have hrd : rd kUp us (upIns us r.2.2.2.1 : Int) = us[upIns us r.2.2.2.1] := rd_nat (k := kUp) (xs := us) hlt
    rw [upIx_has h.1 hh, if_pos hlt, dec_false (by omega)]
    simp only [cond_false, Bool.true_eq_false, if_false]
    rw [dec_true (by omega), dec_true (by omega)]
    simp only [cond_true, Int.toNat_natCast, hrd]
    generalize us[upIns us r.2.2.2.1] = u at hu hid ⊢
    by_cases k2 : r.2.2.1 = 2
    · rw [dec_true k2, if_pos k2]
      simp only [cond_true]
      cases hd : u.2.2.2 with
      | true => simp [bindS]
      | false =>
        by_cases hn : r.2.2.2.2.1 = (List.length u.2.2.1 : Int)
        · rw [dec_true hn, hn, w64 (by omega) (by omega)]
          by_cases hw : (List.length u.2.2.1 : Int) + (List.length r.2.2.2.2.2 : Int) > u.2.1
          · rw [dec_true hw, if_pos (.inr (.inr hw))]
            exact ⟨_, rfl, fun e => by cases e⟩
          · rw [dec_false hw, if_neg (by simp; omega)]
            simp only [Bool.not_true, cond_false, bindS]
            rw [dec_true (by omega), dec_true (by omega)]
            exact ⟨_, rfl, fun _ => rfl⟩
        · rw [dec_false hn, if_pos (.inr (.inl hn))]
          exact ⟨_, rfl, fun e => by cases e⟩
    rw [dec_false k2, if_neg k2]
    by_cases k3 : r.2.2.1 = 3
    · rw [dec_true k3, if_pos k3]
      simp only [cond_true, cond_false]
      cases hd : u.2.2.2 with
      | true => simp
      | false =>
        by_cases hn : (List.length u.2.2.1 : Int) = u.2.1
        · rw [dec_true hn, if_neg (by simp [hn])]
          exact ⟨_, rfl, fun _ => rfl⟩
        · rw [dec_false hn, if_pos (.inr hn)]
          exact ⟨_, rfl, fun e => by cases e⟩
    rw [dec_false k3, if_neg k3]
    by_cases k4 : r.2.2.1 = 4
    · rw [dec_true k4, if_pos k4, w64 (n := (upIns us r.2.2.2.1 : Int) + 1) (by omega) (by omega)]
      simp only [cond_true, cond_false]
      rw [dec_true (by omega), dec_true (by omega), dec_true (by omega), dec_true (by omega)]
      simp only [cond_true]
      rw [show ((upIns us r.2.2.2.1 : Int) + 1).toNat = upIns us r.2.2.2.1 + 1 by omega, dec_true (by omega)]
      simp only [cond_true, List.take_length]
      exact ⟨_, rfl, fun _ => rfl⟩
    rw [dec_false k4, if_neg k4]
    exact ⟨_, rfl, fun e => by cases e⟩

theorem ord_set {us : List TUp} (h : Ord us) (p : Nat) (hp : p < us.length) (u : TUp) (hu : u.1 = us[p].1) : Ord (us.set p u) := by
  refine List.pairwise_iff_getElem.2 fun i j hi hj hij => ?_
  simp only [List.length_set] at hi hj
  have hk : ∀ q (hq : q < us.length), ((us.set p u)[q]'(by simpa using hq)).1 = us[q].1 := fun q hq => by
    rw [List.getElem_set]
    split
    · rename_i e; subst e; exact hu
    · rfl
  rw [hk i hi, hk j hj]
  exact ord_at h hij hj

theorem foldOne_ups {us us' : List TUp} {r : TRec} (h : Ups us) (hr' : RecG r) (e : foldOne us r = some us') : Ups us' := by
  have hr := hr'.1
  have hp := upIns_le us r.2.2.2.1
  have hb := recOk_bnd hr
  simp only [foldOne] at e
  split at e
  · split at e
    · cases e
    rename_i hc
    injection e with e
    subst e
    have hnh : upHas us r.2.2.2.1 = false := by cases q : upHas us r.2.2.2.1; rfl; exact absurd (.inl q) hc
    refine ⟨?_, by simp; omega, fun u hu => ?_⟩
    · show List.Pairwise _ _
      rw [List.pairwise_append]
      refine ⟨h.1.sublist (List.take_sublist _ _), List.pairwise_cons.2 ⟨fun b hb => ?_, h.1.sublist (List.drop_sublist _ _)⟩, fun a ha b hb => ?_⟩
      · obtain ⟨j, hj, rfl⟩ := List.getElem_of_mem hb
        rw [List.getElem_drop]
        exact upIns_gt h.1 hnh (by omega) _
      · obtain ⟨j, hj, rfl⟩ := List.getElem_of_mem ha
        rw [List.length_take] at hj
        rw [List.getElem_take]
        have h1 := upIns_lo (us := us) (id := r.2.2.2.1) (j := j) (by omega)
        rcases List.mem_cons.1 hb with rfl | hb
        · exact h1
        · obtain ⟨q, hq, rfl⟩ := List.getElem_of_mem hb
          rw [List.getElem_drop]
          rw [List.length_drop] at hq
          exact bl_trans h1 (upIns_gt h.1 hnh (by omega) (by omega))
    · rcases List.mem_append.1 hu with hu | hu
      · exact h.2.2 u (List.mem_of_mem_take hu)
      · rcases List.mem_cons.1 hu with rfl | hu
        · exact ⟨by simp only [List.length_nil]; omega, by simp only; omega, hb.2.2.2.2.1, byt_nil⟩
        · exact h.2.2 u (List.mem_of_mem_drop hu)
  split at e
  · cases e
  rename_i _ hh
  have hh : upHas us r.2.2.2.1 = true := by cases q : upHas us r.2.2.2.1; exact absurd q hh; rfl
  obtain ⟨hlt, hid⟩ := upHas_iff.1 hh
  have hrd : rd kUp us (upIns us r.2.2.2.1 : Int) = us[upIns us r.2.2.2.1] := rd_nat (k := kUp) (xs := us) hlt
  have hu0 := h.2.2 _ (List.getElem_mem hlt)
  simp only [hrd] at e
  split at e
  · split at e
    · cases e
    rename_i hc
    injection e with e
    subst e
    refine ⟨ord_set h.1 _ hlt _ rfl, by simp; exact h.2.1, fun u hu => ?_⟩
    rcases List.mem_or_eq_of_mem_set hu with hu | rfl
    · exact h.2.2 u hu
    · refine ⟨?_, hu0.2.1, hu0.2.2.1, byt_app hu0.2.2.2 hr'.2⟩
      simp only [List.length_append]
      have : ¬ ((List.length us[upIns us r.2.2.2.1].2.2.1 : Int) + (List.length r.2.2.2.2.2 : Int) > us[upIns us r.2.2.2.1].2.1) := fun q => hc (.inr (.inr q))
      omega
  split at e
  · split at e
    · cases e
    injection e with e
    subst e
    refine ⟨ord_set h.1 _ hlt _ rfl, by simp; exact h.2.1, fun u hu => ?_⟩
    rcases List.mem_or_eq_of_mem_set hu with hu | rfl
    · exact h.2.2 u hu
    · exact hu0
  split at e
  · injection e with e
    subst e
    refine ⟨?_, by have := h.2.1; simp only [List.length_append, List.length_take, List.length_drop]; omega, fun u hu => ?_⟩
    · show List.Pairwise _ _
      rw [List.pairwise_append]
      refine ⟨h.1.sublist (List.take_sublist _ _), h.1.sublist (List.drop_sublist _ _), fun a ha b hb => ?_⟩
      obtain ⟨j, hj, rfl⟩ := List.getElem_of_mem ha
      obtain ⟨q, hq, rfl⟩ := List.getElem_of_mem hb
      rw [List.length_take] at hj
      rw [List.length_drop] at hq
      rw [List.getElem_take, List.getElem_drop]
      exact ord_at h.1 (by omega) (by omega)
    · rcases List.mem_append.1 hu with hu | hu
      · exact h.2.2 u (List.mem_of_mem_take hu)
      · exact h.2.2 u (List.mem_of_mem_drop hu)
  · cases e

/-- What records make. -/
def foldAll : List TUp → List TRec → Option (List TUp)
  | us, [] => some us
  | us, r :: l => match foldOne us r with
    | some us' => foldAll us' l
    | none => none
def foldRecs (l : List TRec) : List TUp × Bool × Unit := match foldAll [] l with
  | some us => (us, true, ())
  | none => ([], false, ())

theorem foldAll_ups : ∀ {l : List TRec} {us us' : List TUp}, Ups us → (∀ r ∈ l, RecG r) → foldAll us l = some us' → Ups us'
  | [], us, us', h, _, e => by simp only [foldAll, Option.some.injEq] at e; subst e; exact h
  | r :: l, us, us', h, hr, e => by
    simp only [foldAll] at e
    split at e
    · rename_i us1 e1
      exact foldAll_ups (foldOne_ups h (hr r (by simp)) e1) (fun x hx => hr x (by simp [hx])) e
    · cases e

theorem fold_loop {α : Type} (f : α → Option (α ⊕ ((List TUp × Unit) ⊕ (List TUp × Bool × Unit)))) (s : Nat → List TUp → α) (l : List TRec) (hr : ∀ r ∈ l, RecG r)
    (hs : ∀ (i : Nat) (hi : i < l.length) (us : List TUp), Ups us → f (s i us) = match foldOne us l[i] with
      | some us' => some (.inl (s (i + 1) us'))
      | none => some (.inr (.inr ([], false, ()))))
    (he : ∀ us, f (s l.length us) = some (.inr (.inl (us, ())))) : bindS (loopO f (s 0 [])) (fun m => some (m.1, true, ())) = some (foldRecs l) := by
  have key : ∀ k i us, i + k = l.length → Ups us → bindS (loopO f (s i us)) (fun m => some (m.1, true, ())) = some (match foldAll us (l.drop i) with
      | some us' => (us', true, ())
      | none => ([], false, ())) := by
    intro k
    induction k with
    | zero =>
      intro i us hi hu
      obtain rfl : i = l.length := by omega
      rw [loopO_eq, he]
      simp [foldAll, bindS]
    | succ k ih =>
      intro i us hi hu
      have hlt : i < l.length := by omega
      rw [loopO_eq, hs i hlt us hu, List.drop_eq_getElem_cons hlt]
      simp only [foldAll]
      cases e : foldOne us l[i] with
      | none => rfl
      | some us' => exact ih (i + 1) us' (by omega) (foldOne_ups hu (hr _ (List.getElem_mem hlt)) e)
  exact key l.length 0 [] (by omega) ups_nil

theorem i_FoldRecs_eq (l : List TRec) (hl : l.length ≤ maxLen) (hr : ∀ r ∈ l, RecG r) : P_i_FoldRecs l = some (foldRecs l) := by
  simp only [P_i_FoldRecs, B_i_FoldRecs]
  refine fold_loop (L_i_FoldRecs_0 P_i_fold l) (fun i us => ((i : Int), us, ())) l hr (fun i hi us hu => ?_) (fun us => by simp [L_i_FoldRecs_0])
  have h1 : ((i : Int) < (l.length : Int)) := by omega
  have h2 : (0 : Int) ≤ (i : Int) := by omega
  have hb := recOk_bnd (hr _ (List.getElem_mem hi)).1
  simp only [L_i_FoldRecs_0, dec_true h1, dec_true h2, cond_true]
  rw [rd_nat (k := kRec) (xs := l) hi, i_fold_eq us _ hu (by omega), w64 (by omega) (by simp only [maxLen] at hl; omega)]
  simp only [bindO, foldI]
  cases foldOne us l[i] <;> rfl
theorem s_FoldRecs_eq (l : List TRec) (hl : l.length ≤ maxLen) (hr : ∀ r ∈ l, RecG r) : P_s_FoldRecs_r99_0 l = some (foldRecs l) := by
  simp only [P_s_FoldRecs_r99_0, B_s_FoldRecs_r99_0]
  refine fold_loop (L_s_FoldRecs_r99_0_0 P_s_l14One_r99_0 l) (fun i us => (us, (i : Int), ())) l hr (fun i hi us hu => ?_) (fun us => by simp [L_s_FoldRecs_r99_0_0])
  have h1 : ((i : Int) < (l.length : Int)) := by omega
  have h2 : (0 : Int) ≤ (i : Int) := by omega
  have hb := recOk_bnd (hr _ (List.getElem_mem hi)).1
  obtain ⟨x, hx, hx2⟩ := s_one_eq us l[i] hu (by omega)
  simp only [L_s_FoldRecs_r99_0_0, dec_true h1, dec_true h2, cond_true]
  rw [rd_nat (k := kRec) (xs := l) hi, hx, w64 (by omega) (by simp only [maxLen] at hl; omega)]
  simp only [bindO, foldI] at hx2 ⊢
  cases e : foldOne us l[i] with
  | none => rfl
  | some us' =>
    rw [e] at hx2
    rw [hx2 rfl]
    rfl
end Go.Proofs.YtmdbndbfhgdhfaaGreat.Ev
