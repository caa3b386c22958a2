/- The world's questions: NotLost, Ends, Begins. -/
import Derived.Test.YtiplpehengcinaaA8
set_option linter.unusedVariables false
set_option linter.unusedSimpArgs false
namespace Go.Proofs.Ytiplpehengcinaa.Ev

def upOf (w : TWorld) (i : Nat) : TUp × Bool × Unit := upAt w.1.1 (rd kClient w.2.1 (i : Int)).1
def toldAt (w : TWorld) (i : Nat) : Int := rd (.int .i64) w.2.2.2.2.2 (i : Int)
def nl (w : TWorld) (i : Nat) : Bool := decide (toldAt w i = -1) || ((upOf w i).2.1 && !decide ((List.length (upOf w i).1.2.2.1 : Int) < toldAt w i))

theorem s_NotLost_eq (w : TWorld) (h : Sm 1048576 kWorld w) : P_s_NotLost w = some ((List.range (min w.2.1.length w.2.2.2.2.2.length)).all (nl w), ()) := by
  have hl : w.2.1.length ≤ 1048576 := (smW_cls h).1
  refine loopB (L_s_NotLost_0 P_s_UpAt w) _ (by simp only [maxLen]; omega) (nl w) (fun i hi => ?_) ?_
  · have h1 : ((i : Int) < (w.2.1.length : Int)) := by omega
    have h2 : (0 : Int) ≤ (i : Int) := by omega
    have h3 : ((i : Int) < (w.2.2.2.2.2.length : Int)) := by omega
    simp only [L_s_NotLost_0, dec_true h1, dec_true h2, dec_true h3, cond_true, bindS]
    rw [s_UpAt_eq _ _ (smW_ups h)]
    show bindO (some (upOf w i)) _ = _
    simp only [bindO, nl]
    change (bif (!decide (toldAt w i = -1)) then _ else _) = _
    by_cases ht : toldAt w i = -1
    · simp [ht]
    · by_cases hu : (upOf w i).2.1 = true
      · by_cases hd : (List.length (upOf w i).1.2.2.1 : Int) < toldAt w i
        · have hd' : (List.length (upOf w i).1.2.2.1 : Int) < rd (.int .i64) w.2.2.2.2.2 (i : Int) := hd
          simp [ht, hu, hd, hd']
        · have hd' : ¬ (List.length (upOf w i).1.2.2.1 : Int) < rd (.int .i64) w.2.2.2.2.2 (i : Int) := hd
          simp [ht, hu, hd, hd']
      · simp [ht, hu]
  · by_cases hc : w.2.1.length ≤ w.2.2.2.2.2.length
    · rw [Nat.min_eq_left hc]
      simp [L_s_NotLost_0, bindS]
    · rw [Nat.min_eq_right (by omega)]
      have h1 : ((w.2.2.2.2.2.length : Int) < (w.2.1.length : Int)) := by omega
      simp [L_s_NotLost_0, bindS, h1]

theorem i_NotLost_eq (w : TWorld) (h : Sm 1048576 kWorld w) : P_i_NotLost w = some ((List.range w.2.1.length).all (fun i => if w.2.2.2.2.2.length ≤ i then true else nl w i), ()) := by
  have hl : w.2.1.length ≤ 1048576 := (smW_cls h).1
  refine loopB (L_i_NotLost_0 P_i_UpAt w) _ (by simp only [maxLen]; omega) _ (fun i hi => ?_) (by simp [L_i_NotLost_0])
  have h1 : ((i : Int) < (w.2.1.length : Int)) := by omega
  have h2 : (0 : Int) ≤ (i : Int) := by omega
  simp only [L_i_NotLost_0, dec_true h1, dec_true h2, cond_true]
  by_cases h3 : w.2.2.2.2.2.length ≤ i
  · rw [dec_true (by omega), if_pos h3]
    rfl
  · rw [dec_false (show ¬ ((i : Int) ≥ (w.2.2.2.2.2.length : Int)) by omega), if_neg h3]
    have h4 : ((i : Int) < (w.2.2.2.2.2.length : Int)) := by omega
    simp only [dec_true h4, cond_true, cond_false]
    rw [i_UpAt_eq _ _ (smW_ups h)]
    show bindS (bif (decide (toldAt w i = -1)) then _ else _) (fun m1 => bindO (some (upOf w i)) _) = _
    simp only [bindO, nl]
    by_cases ht : toldAt w i = -1
    · simp [ht, bindS]
    · by_cases hu : (upOf w i).2.1 = true
      · by_cases hd : (List.length (upOf w i).1.2.2.1 : Int) < toldAt w i
        · have hd' : (List.length (upOf w i).1.2.2.1 : Int) < rd (.int .i64) w.2.2.2.2.2 (i : Int) := hd
          simp [ht, hu, hd, hd', bindS]
        · have hd' : ¬ (List.length (upOf w i).1.2.2.1 : Int) < rd (.int .i64) w.2.2.2.2.2 (i : Int) := hd
          simp [ht, hu, hd, hd', bindS]
      · simp [ht, hu, bindS]

theorem notLost_eq (w : TWorld) (h : Sm 1048576 kWorld w) : P_i_NotLost w = P_s_NotLost w := by
  rw [i_NotLost_eq w h, s_NotLost_eq w h]
  congr 2
  rw [Bool.eq_iff_iff]
  simp only [List.all_eq_true, List.mem_range]
  constructor
  · intro g i hi
    have := g i (by omega)
    rw [if_neg (by omega)] at this
    exact this
  · intro g i hi
    split
    · rfl
    · exact g i (by omega)

def en (w : TWorld) (i : Nat) : Bool := !decide ((rd kClient w.2.1 (i : Int)).2.2.1 = 5) || ((upOf w i).2.1 && ((upOf w i).1.2.2.2 && ((strOf (upOf w i).1.2.2.1).toList == (strOf (rd kClient w.2.1 (i : Int)).2.1).toList)))
theorem s_Ends_eq (w : TWorld) (h : Sm 1048576 kWorld w) : P_s_Ends w = some ((List.range w.2.1.length).all (en w), ()) := by
  have hl : w.2.1.length ≤ 1048576 := (smW_cls h).1
  refine loopB (L_s_Ends_0 P_s_UpAt w) _ (by simp only [maxLen]; omega) (en w) (fun i hi => ?_) (by simp [L_s_Ends_0])
  have h1 : ((i : Int) < (w.2.1.length : Int)) := by omega
  have h2 : (0 : Int) ≤ (i : Int) := by omega
  simp only [L_s_Ends_0, dec_true h1, dec_true h2, cond_true]
  rw [s_UpAt_eq _ _ (smW_ups h)]
  show bindO (some (upOf w i)) _ = _
  simp only [bindO, en]
  cases decide ((rd kClient w.2.1 (i : Int)).2.2.1 = 5) <;> cases (upOf w i).2.1 <;> cases (upOf w i).1.2.2.2 <;> cases ((strOf (upOf w i).1.2.2.1).toList == (strOf (rd kClient w.2.1 (i : Int)).2.1).toList) <;> simp
theorem i_Ends_eq (w : TWorld) (h : Sm 1048576 kWorld w) : P_i_Ends w = some ((List.range w.2.1.length).all (en w), ()) := by
  have hl : w.2.1.length ≤ 1048576 := (smW_cls h).1
  refine loopB (L_i_Ends_0 P_bytes_Equal P_i_UpAt w) _ (by simp only [maxLen]; omega) (en w) (fun i hi => ?_) (by simp [L_i_Ends_0])
  have h1 : ((i : Int) < (w.2.1.length : Int)) := by omega
  have h2 : (0 : Int) ≤ (i : Int) := by omega
  simp only [L_i_Ends_0, dec_true h1, dec_true h2, cond_true]
  rw [i_UpAt_eq _ _ (smW_ups h)]
  show bindO (some (upOf w i)) _ = _
  simp only [bindO, en, P_bytes_Equal, B_bytes_Equal]
  cases decide ((rd kClient w.2.1 (i : Int)).2.2.1 = 5) <;> cases (upOf w i).2.1 <;> cases (upOf w i).1.2.2.2 <;> cases ((strOf (upOf w i).1.2.2.1).toList == (strOf (rd kClient w.2.1 (i : Int)).2.1).toList) <;> simp

/-- The beginning of a list. -/
def beg (a b : List Int) : Bool := decide (a.length ≤ b.length) && (List.range a.length).all fun i => decide (rd (.int .u8) a (i : Int) = rd (.int .u8) b (i : Int))
theorem l19Begins_eq (a b : List Int) (h : a.length ≤ maxLen) : P_s_l19Begins a b = some (beg a b, ()) := by
  simp only [P_s_l19Begins, B_s_l19Begins, beg]
  by_cases hc : a.length ≤ b.length
  · rw [dec_false (by omega), dec_true hc]
    simp only [cond_false, Bool.true_and]
    refine loopB (L_s_l19Begins_0 a b) _ h _ (fun i hi => ?_) (by simp [L_s_l19Begins_0])
    have h1 : ((i : Int) < (a.length : Int)) := by omega
    have h2 : (0 : Int) ≤ (i : Int) := by omega
    have h3 : ((i : Int) < (b.length : Int)) := by omega
    simp only [L_s_l19Begins_0, dec_true h1, dec_true h2, dec_true h3, cond_true]
    cases decide (rd (.int .u8) a (i : Int) = rd (.int .u8) b (i : Int)) <;> simp
  · rw [dec_true (by omega), dec_false hc]
    rfl

theorem u8_inj {x y : Int} (hx : 0 ≤ x ∧ x < 256) (hy : 0 ≤ y ∧ y < 256) (h : UInt8.ofNat x.toNat = UInt8.ofNat y.toNat) : x = y := by
  have := congrArg UInt8.toNat h
  simp only [UInt8.toNat_ofNat'] at this
  omega

theorem strOf_take (a b : List Int) (ha : Byt a) (hb : Byt b) (hc : a.length ≤ b.length) : ((strOf ((b.take a.length).drop 0)).toList == (strOf a).toList) = (List.range a.length).all fun i => decide (rd (.int .u8) a (i : Int) = rd (.int .u8) b (i : Int)) := by
  unfold strOf
  rw [ByteArray.toList_eq, ByteArray.toList_eq, strOfNums_data, strOfNums_data, List.drop_zero, Bool.eq_iff_iff]
  simp only [beq_iff_eq, List.all_eq_true, List.mem_range, decide_eq_true_eq]
  constructor
  · intro e i hi
    rw [rd_int hi, rd_int (show i < b.length by omega)]
    have := congrArg (fun l => l[i]?) e
    simp only [List.getElem?_map] at this
    rw [List.getElem?_take_of_lt hi, List.getElem?_eq_getElem (show i < b.length by omega), List.getElem?_eq_getElem hi] at this
    simp only [Option.map_some, Option.some.injEq] at this
    exact (u8_inj (hb _ (List.getElem_mem _)) (ha _ (List.getElem_mem _)) this).symm
  · intro e
    have : b.take a.length = a := by
      apply List.ext_getElem
      · simp; omega
      · intro i h1 h2
        have := e i h2
        rw [rd_int h2, rd_int (show i < b.length by omega)] at this
        simp [this]
    rw [this]

theorem hasPrefix_eq (a b : List Int) (ha : Byt a) (hb : Byt b) : P_bytes_HasPrefix b a = some (beg a b, ()) := by
  simp only [P_bytes_HasPrefix, B_bytes_HasPrefix, P_bytes_Equal, B_bytes_Equal, beg, bindO]
  by_cases hc : a.length ≤ b.length
  · have g1 : (b.length : Int) ≥ (a.length : Int) := by omega
    have g2 : (0 : Int) ≤ (a.length : Int) := by omega
    have g3 : (a.length : Int) ≤ (b.length : Int) := by omega
    simp only [dec_true g1, dec_true g2, dec_true g3, dec_true hc, Int.toNat_natCast, cond_true, Bool.true_and]
    rw [strOf_take a b ha hb hc]
  · rw [dec_false (show ¬ (b.length : Int) ≥ (a.length : Int) by omega), dec_false hc]
    rfl

def BytW (w : TWorld) : Prop := (∀ u ∈ w.1.1.2.2.2, Byt u.2.2.1) ∧ ∀ c ∈ w.2.1, Byt c.2.1
theorem bytW_wf {w : TWorld} (h : Wf kWorld w) : BytW w := ⟨fun u hu => byt_wf (h.1.1.2.2.2.2 u hu).2.2.1.2, fun c hc => byt_wf (h.2.1.2 c hc).2.1.2⟩

theorem upOf_byt {w : TWorld} (h : BytW w) (i : Nat) : Byt (upOf w i).1.2.2.1 := by
  unfold upOf upAt
  split
  · rename_i hi
    rw [rd_nat (k := kUp) (xs := w.1.1.2.2.2) hi]
    exact h.1 _ (List.getElem_mem hi)
  · intro x hx; cases hx
theorem file_byt {w : TWorld} (h : BytW w) {i : Nat} (hi : i < w.2.1.length) : Byt (rd kClient w.2.1 (i : Int)).2.1 := by
  rw [rd_nat (k := kClient) (xs := w.2.1) hi]
  exact h.2 _ (List.getElem_mem hi)

def be (w : TWorld) (i : Nat) : Bool := !(upOf w i).2.1 || (beg (upOf w i).1.2.2.1 (rd kClient w.2.1 (i : Int)).2.1 && decide ((upOf w i).1.2.1 = (List.length (rd kClient w.2.1 (i : Int)).2.1 : Int)))
theorem s_Begins_eq (w : TWorld) (h : Sm 1048576 kWorld w) : P_s_Begins w = some ((List.range w.2.1.length).all (be w), ()) := by
  have hl : w.2.1.length ≤ 1048576 := (smW_cls h).1
  refine loopB (L_s_Begins_0 P_s_UpAt P_s_l19Begins w) _ (by simp only [maxLen]; omega) (be w) (fun i hi => ?_) (by simp [L_s_Begins_0])
  have h1 : ((i : Int) < (w.2.1.length : Int)) := by omega
  have h2 : (0 : Int) ≤ (i : Int) := by omega
  simp only [L_s_Begins_0, dec_true h1, dec_true h2, cond_true]
  rw [s_UpAt_eq _ _ (smW_ups h)]
  show bindO (some (upOf w i)) _ = _
  have hd : List.length (upOf w i).1.2.2.1 ≤ 1048576 := upAt_data (smW_ups h) _
  simp only [bindO, be]
  rw [l19Begins_eq _ _ (by simp only [maxLen]; omega)]
  simp only
  cases (upOf w i).2.1 <;> cases beg (upOf w i).1.2.2.1 (rd kClient w.2.1 (i : Int)).2.1 <;> cases decide ((upOf w i).1.2.1 = (List.length (rd kClient w.2.1 (i : Int)).2.1 : Int)) <;> simp
theorem i_Begins_eq (w : TWorld) (h : Sm 1048576 kWorld w) (hb : BytW w) : P_i_Begins w = some ((List.range w.2.1.length).all (be w), ()) := by
  have hl : w.2.1.length ≤ 1048576 := (smW_cls h).1
  refine loopB (L_i_Begins_0 P_bytes_HasPrefix P_i_UpAt w) _ (by simp only [maxLen]; omega) (be w) (fun i hi => ?_) (by simp [L_i_Begins_0])
  have h1 : ((i : Int) < (w.2.1.length : Int)) := by omega
  have h2 : (0 : Int) ≤ (i : Int) := by omega
  simp only [L_i_Begins_0, dec_true h1, dec_true h2, cond_true]
  rw [i_UpAt_eq _ _ (smW_ups h)]
  show bindO (some (upOf w i)) _ = _
  simp only [bindO, be]
  rw [hasPrefix_eq _ _ (upOf_byt hb i) (file_byt hb hi)]
  simp only
  cases (upOf w i).2.1 <;> cases beg (upOf w i).1.2.2.1 (rd kClient w.2.1 (i : Int)).2.1 <;> cases decide ((upOf w i).1.2.1 = (List.length (rd kClient w.2.1 (i : Int)).2.1 : Int)) <;> simp
end Go.Proofs.Ytiplpehengcinaa.Ev
