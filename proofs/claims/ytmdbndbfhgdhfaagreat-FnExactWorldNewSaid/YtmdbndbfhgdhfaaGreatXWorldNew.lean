/- The law FnExactWorldNew: its plain function always answers true. -/
import Derived.Test.YtmdbndbfhgdhfaaGreatXWorldOk
import Derived.Test.YtmdbndbfhgdhfaaGreatXSyncAll
import Derived.Test.YtmdbndbfhgdhfaaGreatC7
set_option linter.unusedVariables false
set_option linter.unusedSimpArgs false
namespace Go.Proofs.YtmdbndbfhgdhfaaGreat.Ev

/-- The world of a new server and clients. -/
def freshWorld (n : Int) (cls : List TClient) : TWorld := (newServer n, cls, List.replicate cls.length false, [], [], List.replicate cls.length (-1))
def noWorld : TWorld := ((((([], []), (0, (0, []))), []), ([], ([], ([], ([], []))))) : TWorld)

theorem worldNew_eq (n : Int) (cls : List TClient) (h : Sm 1048576 (.sl 0 kClient) cls) : ∃ w, P_s_WorldNew n cls = some (w, ()) ∧ P_i_WorldNew n cls = some (w, ()) ∧ (w = freshWorld n cls ∨ w = noWorld) := by
  have hl : cls.length ≤ 1048576 := h.1
  have hf : ∀ i (hi : i < cls.length), List.length (cls[i]).2.1 ≤ 140737488355328 := fun i hi => by
    have h1 : Sm 1048576 kClient cls[i] := h.2 _ (List.getElem_mem hi)
    have h2 : List.length (cls[i]).2.1 ≤ 1048576 := (Sm.l (Sm.r h1)).1
    omega
  have hd := newDisk_len n
  have ks : loopO (L_s_WorldNew_0 P_s_l17Copy cls) (0, 0, 0, (newDisk n).1, (newDisk n).2, [], [], [], [], [], ()) = some (0, 0, (newDisk n).1, (newDisk n).2, [], [], cls, List.replicate cls.length false, List.replicate cls.length (-1), ()) := by
    have key := loopO_count (L_s_WorldNew_0 P_s_l17Copy cls) (fun i => ((i : Int), 0, 0, (newDisk n).1, (newDisk n).2, [], [], cls.take i, List.replicate i false, List.replicate i (-1), ())) cls.length (0, 0, (newDisk n).1, (newDisk n).2, [], [], cls, List.replicate cls.length false, List.replicate cls.length (-1), ()) (fun i hi => ?_) ?_
    · simpa using key
    · have g1 : (i : Int) < (cls.length : Int) := by omega
      have g2 : (0 : Int) ≤ (i : Int) := by omega
      simp only [L_s_WorldNew_0, dec_true g1, dec_true g2, cond_true]
      rw [rd_nat (k := kClient) (xs := cls) hi, l17Copy_eq _ (hf i hi)]
      simp only [bindO]
      rw [dec_true (by simp; omega), dec_true (by simp; omega), dec_true (by simp; omega), dec_true (by simp; omega), dec_true (by simp; omega), dec_true (by simp; omega), w64 (by omega) (by omega), List.take_succ_eq_append_getElem hi, List.replicate_succ', List.replicate_succ']
      rfl
    · simp [L_s_WorldNew_0]
  have ki : loopO (L_i_WorldNew_0 P_i_copyClient cls) (0, 0, 0, (newDisk n).1, (newDisk n).2, [], [], [], [], [], ()) = some (0, 0, (newDisk n).1, (newDisk n).2, [], [], cls, List.replicate cls.length false, List.replicate cls.length (-1), ()) := by
    have key := loopO_count (L_i_WorldNew_0 P_i_copyClient cls) (fun i => ((i : Int), 0, 0, (newDisk n).1, (newDisk n).2, [], [], cls.take i, List.replicate i false, List.replicate i (-1), ())) cls.length (0, 0, (newDisk n).1, (newDisk n).2, [], [], cls, List.replicate cls.length false, List.replicate cls.length (-1), ()) (fun i hi => ?_) ?_
    · simpa using key
    · have g1 : (i : Int) < (cls.length : Int) := by omega
      have g2 : (0 : Int) ≤ (i : Int) := by omega
      simp only [L_i_WorldNew_0, dec_true g1, dec_true g2, cond_true]
      rw [rd_nat (k := kClient) (xs := cls) hi, copyClient_eq _ (hf i hi)]
      simp only [bindO]
      rw [dec_true (by simp; omega), dec_true (by simp; omega), dec_true (by simp; omega), dec_true (by simp; omega), dec_true (by simp; omega), dec_true (by simp; omega), w64 (by omega) (by omega), List.take_succ_eq_append_getElem hi, List.replicate_succ', List.replicate_succ']
      rfl
    · simp [L_i_WorldNew_0]
  have hsec : Secs (newDisk n).1 := by
    refine ⟨by omega, fun s hs => ?_⟩
    unfold newDisk at hs
    split at hs
    · rw [List.eq_of_mem_replicate hs]; exact Nat.zero_le _
    · cases hs
  have hw : WorS (freshWorld n cls) := ⟨hsec, by simp [freshWorld, newServer], ⟨hl, fun c hc => by
    have h1 : Sm 1048576 kClient c := h.2 c hc
    have h2 : c.1.size ≤ 1048576 := Sm.l h1
    simp only [maxLen]; omega⟩, ⟨by simp [freshWorld], fun a ha => by cases ha⟩, by simp [freshWorld]⟩
  obtain ⟨b, hb, hi⟩ := worldOk_eq (freshWorld n cls) hw
  simp only [P_s_WorldNew, B_s_WorldNew, P_i_WorldNew, B_i_WorldNew, s_ServerNew_eq, i_ServerNew_eq, bindO]
  have es : loopO (L_s_WorldNew_0 P_s_l17Copy cls) (0, (newServer n).1.2.1, (newServer n).1.2.2.1, (newServer n).1.1.1, (newServer n).1.1.2, (newServer n).1.2.2.2, (newServer n).2, [], [], [], ()) = _ := ks
  have ei : loopO (L_i_WorldNew_0 P_i_copyClient cls) (0, (newServer n).1.2.1, (newServer n).1.2.2.1, (newServer n).1.1.1, (newServer n).1.1.2, (newServer n).1.2.2.2, (newServer n).2, [], [], [], ()) = _ := ki
  rw [es, ei]
  have e1 : ((((newDisk n).1, (newDisk n).2), (0, (0, []))), []) = newServer n := rfl
  have hb' : P_s_WorldOk (((((newDisk n).1, (newDisk n).2), ((0 : Int), ((0 : Int), []))), []), (cls, (List.replicate cls.length false, ([], ([], List.replicate cls.length (-1)))))) = some (b, ()) := hb
  have hi' : P_i_WorldOk (((((newDisk n).1, (newDisk n).2), ((0 : Int), ((0 : Int), []))), []), (cls, (List.replicate cls.length false, ([], ([], List.replicate cls.length (-1)))))) = some (b, ()) := hi
  simp only [hb', hi']
  cases b with
  | false => exact ⟨_, rfl, rfl, .inr rfl⟩
  | true => exact ⟨_, rfl, rfl, .inl rfl⟩

theorem exactWorldNew (n : Int) (cls : List TClient) (hw : Wf (.sl 0 kClient) cls) : P_w_FnExactWorldNew n cls = some (true, ()) := by
  have hm : Sm maxLen (.sl 0 kClient) cls := sm_wf hw
  simp only [P_w_FnExactWorldNew, B_w_FnExactWorldNew]
  obtain ⟨r, e, h1, h2⟩ := szClientS_ok cls hm 1048576 (by omega) (by omega)
  rw [e]
  simp only [bindO]
  by_cases hr : r < 0
  · rw [dec_true hr]; rfl
  rw [dec_false hr]
  have hs : Sm 1048576 (.sl 0 kClient) cls := h2 (by omega)
  have hl : cls.length ≤ 1048576 := hs.1
  have hM : (1048576 : Nat) ≤ maxLen := by simp only [maxLen]; omega
  obtain ⟨w, es, ei, hw2⟩ := worldNew_eq n cls hs
  have hd := newDisk_len n
  have hcc := cost_le (fun u : TClient => List.length u.2.1 + 3) 1048579 cls (fun u hu => by
    have h1 : Sm 1048576 kClient u := hs.2 u hu
    have h2 : List.length u.2.1 ≤ 1048576 := (Sm.l (Sm.r h1)).1
    omega)
  have hcl : cls.length * 1048579 ≤ 1048576 * 1048579 := Nat.mul_le_mul_right _ hl
  have hsm : Sm maxLen kWorldx w ∧ WorL w ∧ nWorld w ≤ 4000000000000000 := by
    rcases hw2 with rfl | rfl
    · refine ⟨⟨⟨⟨⟨⟨by show List.length (newDisk n).1 ≤ _; simp only [maxLen]; omega, fun x hx => ?_⟩, ⟨by show List.length (newDisk n).2 ≤ _; simp only [maxLen]; omega, fun x hx => ?_⟩⟩, trivial, trivial, by simp [freshWorld, newServer, Sm]⟩, by simp [freshWorld, newServer, Sm]⟩, hm, ⟨by simp [freshWorld, maxLen]; omega, fun _ _ => trivial⟩, by simp [freshWorld, Sm], by simp [freshWorld, Sm], ⟨by simp [freshWorld, maxLen]; omega, fun _ _ => trivial⟩⟩, ⟨by simp [freshWorld, newServer], by simp [freshWorld, newServer], hl, by simp [freshWorld]; omega, by simp [freshWorld], by simp [freshWorld], by simp [freshWorld]; omega⟩, ?_⟩
      · simp only [freshWorld, newServer, newDisk] at hx
        split at hx
        · rw [List.eq_of_mem_replicate hx]; exact Nat.zero_le _
        · cases hx
      · simp only [freshWorld, newServer, newDisk] at hx
        split at hx
        · rw [List.eq_of_mem_replicate hx]; exact Nat.zero_le _
        · cases hx
      · have c1 := cost_le (fun _ : Bool => 1) 1 (List.replicate cls.length false) (fun u hu => Nat.le_refl _)
        have c2 := cost_le (fun _ : Int => 1) 1 (List.replicate cls.length (-1 : Int)) (fun u hu => Nat.le_refl _)
        rw [List.length_replicate] at c1 c2
        have z1 : cost (fun u : TUp => List.length u.2.2.1 + 3) [] = 0 := rfl
        have z2 : cost (fun _ : THeld => 3) [] = 0 := rfl
        have z3 : cost (fun u : TWant => List.length u.2.2 + 4) [] = 0 := rfl
        simp only [nWorld, nServer, nStore, nDisk, freshWorld, newServer, z1, z2, z3]
        omega
    · refine ⟨by simp [noWorld, Sm], by simp [noWorld, WorL], ?_⟩
      show nWorld noWorld ≤ _
      have : nWorld noWorld = 0 := rfl
      omega
  obtain ⟨hy, hyl, hyn⟩ := hsm
  have q1 := eqWorld_refl w hy
  have q2 := eqClientS_refl cls hm
  obtain ⟨mx, x1, ex, ax, bx, fx⟩ := mh_clientS cls hl 1 (by omega) (by omega)
  obtain ⟨my, y1, y2, y3, y4, ey, ay, by', fy⟩ := mh_world w hyl 1 (by omega) (by omega)
  simp only [cond_false, toClientS_eq cls hs, es, ei, q1, q2, ex, ey, fy, Bool.not_true, bindS]
  rw [dec_false (show ¬ mx < 0 by omega), dec_false (show ¬ my < 0 by omega)]
  simp
end Go.Proofs.YtmdbndbfhgdhfaaGreat.Ev
