/- What the laws' helpers do: sizes, copies, equality, type by type. -/
import Derived.Test.YtiplpehengcinaaA1
import Derived.Test.YtiplpehengcinaaSm
set_option linter.unusedVariables false
set_option linter.unusedSimpArgs false
namespace Go.Proofs.Ytiplpehengcinaa.Ev
theorem szByteS_ok (a : List Int) (h : Sm maxLen (.sl 0 (.int .u8)) a) : SzOk (P_w_szByteS a) (Sm 1048576 (.sl 0 (.int .u8)) a) := by
  intro l h0 h1
  refine ⟨_, szByteS_eq a l h1 h0 h.1, ?_, fun hr => ⟨?_, fun x _ => trivial⟩⟩
  · split <;> omega
  · split at hr <;> omega
theorem toByteS_sm (a : List Int) (h : Sm 1048576 (.sl 0 (.int .u8)) a) : P_w_toByteS a = some (a, ()) := toByteS_eq a (by have := h.1; omega)
theorem eqByteS_sm (a : List Int) (h : Sm maxLen (.sl 0 (.int .u8)) a) : P_w_eqByteS a a = some (true, ()) := eqByteS_refl a h.1
theorem szBoolS_ok (a : List Bool) (h : Sm maxLen (.sl 4 .bool) a) : SzOk (P_w_szBoolS a) (Sm 1048576 (.sl 4 .bool) a) := by
  have hl : a.length ≤ 9223372036854775807 := h.1
  intro l h0 h1
  simp only [P_w_szBoolS, B_w_szBoolS]
  rw [w64 (by omega) (by omega)]
  by_cases hn : l - (a.length : Int) < 0
  · rw [dec_true hn]; exact ⟨-1, rfl, by omega, fun h => by omega⟩
  rw [dec_false hn]; simp only [cond_false]
  exact ⟨_, rfl, by omega, fun _ => ⟨by omega, fun x _ => by simp [Sm]⟩⟩
theorem szClient_ok (a : TClient) (h : Sm maxLen kClient a) : SzOk (P_w_szClient a) (Sm 1048576 kClient a) := by
  intro l h0 h1
  simp only [P_w_szClient, B_w_szClient]
  have z1 : a.1.size ≤ 9223372036854775807 := (Sm.l h)
  rw [w64 (n := l - (a.1.size : Int)) (by omega) (by omega)]
  by_cases n1 : l - (a.1.size : Int) < 0
  · rw [dec_true n1]; exact ⟨-1, rfl, by omega, fun h => by omega⟩
  rw [dec_false n1]; simp only [cond_false]
  obtain ⟨r2, e2, u2, v2⟩ := szByteS_ok a.2.1 (Sm.l (Sm.r h)) (l - (a.1.size : Int)) (by omega) (by omega)
  rw [e2]; simp only [bindO]
  by_cases n2 : r2 < 0
  · rw [dec_true n2]; exact ⟨-1, rfl, by omega, fun h => by omega⟩
  rw [dec_false n2]; simp only [cond_false]
  exact ⟨_, rfl, by omega, fun _ => ⟨by show a.1.size ≤ 1048576; omega, ⟨v2 (by omega), ⟨by simp [Sm], by simp [Sm]⟩⟩⟩⟩
theorem szClientS_ok (a : List TClient) (h : Sm maxLen (.sl 24 kClient) a) : SzOk (P_w_szClientS a) (Sm 1048576 (.sl 24 kClient) a) := by
  have hl : a.length ≤ 9223372036854775807 := h.1
  intro l h0 h1
  simp only [P_w_szClientS, B_w_szClientS]
  rw [w64 (by omega) (by omega)]
  by_cases hn : l - (a.length : Int) < 0
  · rw [dec_true hn]; exact ⟨-1, rfl, by omega, fun h => by omega⟩
  rw [dec_false hn]; simp only [cond_false]
  obtain ⟨r, e, h2, h3⟩ := szS_gen P_w_szClient (fun x => Sm 1048576 kClient x) (L_w_szClientS_0 P_w_szClient a) a h.1 (fun x hx => szClient_ok x (h.2 x hx)) (by
    intro i hi l
    have g1 : ((i : Int) < (a.length : Int)) := by omega
    have g2 : (0 : Int) ≤ (i : Int) := by omega
    simp only [L_w_szClientS_0, dec_true g1, dec_true g2, cond_true]
    rw [rd_nat (k := kClient) (xs := a) hi]
    ) (fun l => by simp [L_w_szClientS_0]) (l - (a.length : Int)) (by omega) (by omega)
  exact ⟨r, e, by omega, fun h => ⟨by omega, h3 h⟩⟩
theorem szGather_ok (a : TGather) (h : Sm maxLen kGather a) : SzOk (P_w_szGather a) (Sm 1048576 kGather a) := by
  intro l h0 h1
  simp only [P_w_szGather, B_w_szGather]
  obtain ⟨r1, e1, u1, v1⟩ := szByteS_ok a.2.2 (Sm.r (Sm.r h)) l (by omega) (by omega)
  rw [e1]; simp only [bindO]
  by_cases n1 : r1 < 0
  · rw [dec_true n1]; exact ⟨-1, rfl, by omega, fun h => by omega⟩
  rw [dec_false n1]; simp only [cond_false]
  exact ⟨_, rfl, by omega, fun _ => ⟨by simp [Sm], ⟨by simp [Sm], v1 (by omega)⟩⟩⟩
theorem szField_ok (a : TField) (h : Sm maxLen kField a) : SzOk (P_w_szField a) (Sm 1048576 kField a) := by
  intro l h0 h1
  simp only [P_w_szField, B_w_szField]
  have z1 : a.1.size ≤ 9223372036854775807 := (Sm.l h)
  rw [w64 (n := l - (a.1.size : Int)) (by omega) (by omega)]
  by_cases n1 : l - (a.1.size : Int) < 0
  · rw [dec_true n1]; exact ⟨-1, rfl, by omega, fun h => by omega⟩
  rw [dec_false n1]; simp only [cond_false]
  have z2 : a.2.size ≤ 9223372036854775807 := (Sm.r h)
  rw [w64 (n := (l - (a.1.size : Int)) - (a.2.size : Int)) (by omega) (by omega)]
  by_cases n2 : (l - (a.1.size : Int)) - (a.2.size : Int) < 0
  · rw [dec_true n2]; exact ⟨-1, rfl, by omega, fun h => by omega⟩
  rw [dec_false n2]; simp only [cond_false]
  exact ⟨_, rfl, by omega, fun _ => ⟨by show a.1.size ≤ 1048576; omega, by show a.2.size ≤ 1048576; omega⟩⟩
theorem szFieldS_ok (a : List TField) (h : Sm maxLen (.sl 224 kField) a) : SzOk (P_w_szFieldS a) (Sm 1048576 (.sl 224 kField) a) := by
  have hl : a.length ≤ 9223372036854775807 := h.1
  intro l h0 h1
  simp only [P_w_szFieldS, B_w_szFieldS]
  rw [w64 (by omega) (by omega)]
  by_cases hn : l - (a.length : Int) < 0
  · rw [dec_true hn]; exact ⟨-1, rfl, by omega, fun h => by omega⟩
  rw [dec_false hn]; simp only [cond_false]
  obtain ⟨r, e, h2, h3⟩ := szS_gen P_w_szField (fun x => Sm 1048576 kField x) (L_w_szFieldS_0 P_w_szField a) a h.1 (fun x hx => szField_ok x (h.2 x hx)) (by
    intro i hi l
    have g1 : ((i : Int) < (a.length : Int)) := by omega
    have g2 : (0 : Int) ≤ (i : Int) := by omega
    simp only [L_w_szFieldS_0, dec_true g1, dec_true g2, cond_true]
    rw [rd_nat (k := kField) (xs := a) hi]
    ) (fun l => by simp [L_w_szFieldS_0]) (l - (a.length : Int)) (by omega) (by omega)
  exact ⟨r, e, by omega, fun h => ⟨by omega, h3 h⟩⟩
theorem szTable_ok (a : TTable) (h : Sm maxLen kTablex a) : SzOk (P_w_szTable a) (Sm 1048576 kTablex a) := by
  intro l h0 h1
  simp only [P_w_szTable, B_w_szTable]
  obtain ⟨r1, e1, u1, v1⟩ := szFieldS_ok a.2 (Sm.r h) l (by omega) (by omega)
  rw [e1]; simp only [bindO]
  by_cases n1 : r1 < 0
  · rw [dec_true n1]; exact ⟨-1, rfl, by omega, fun h => by omega⟩
  rw [dec_false n1]; simp only [cond_false]
  exact ⟨_, rfl, by omega, fun _ => ⟨by simp [Sm], v1 (by omega)⟩⟩
theorem szReq_ok (a : TReq) (h : Sm maxLen kReq a) : SzOk (P_w_szReq a) (Sm 1048576 kReq a) := by
  intro l h0 h1
  simp only [P_w_szReq, B_w_szReq]
  have z1 : a.2.1.size ≤ 9223372036854775807 := (Sm.l (Sm.r h))
  rw [w64 (n := l - (a.2.1.size : Int)) (by omega) (by omega)]
  by_cases n1 : l - (a.2.1.size : Int) < 0
  · rw [dec_true n1]; exact ⟨-1, rfl, by omega, fun h => by omega⟩
  rw [dec_false n1]; simp only [cond_false]
  exact ⟨_, rfl, by omega, fun _ => ⟨by simp [Sm], ⟨by show a.2.1.size ≤ 1048576; omega, by simp [Sm]⟩⟩⟩
theorem szStr_ok (a : TStr) (h : Sm maxLen kStr a) : SzOk (P_w_szStr a) (Sm 1048576 kStr a) := by
  intro l h0 h1
  simp only [P_w_szStr, B_w_szStr]
  obtain ⟨r1, e1, u1, v1⟩ := szReq_ok a.2.2.1 (Sm.l (Sm.r (Sm.r h))) l (by omega) (by omega)
  rw [e1]; simp only [bindO]
  by_cases n1 : r1 < 0
  · rw [dec_true n1]; exact ⟨-1, rfl, by omega, fun h => by omega⟩
  rw [dec_false n1]; simp only [cond_false]
  obtain ⟨r2, e2, u2, v2⟩ := szByteS_ok a.2.2.2 (Sm.r (Sm.r (Sm.r h))) r1 (by omega) (by omega)
  rw [e2]; simp only [bindO]
  by_cases n2 : r2 < 0
  · rw [dec_true n2]; exact ⟨-1, rfl, by omega, fun h => by omega⟩
  rw [dec_false n2]; simp only [cond_false]
  exact ⟨_, rfl, by omega, fun _ => ⟨by simp [Sm], ⟨by simp [Sm], ⟨v1 (by omega), v2 (by omega)⟩⟩⟩⟩
theorem szStrS_ok (a : List TStr) (h : Sm maxLen (.sl 193 kStr) a) : SzOk (P_w_szStrS a) (Sm 1048576 (.sl 193 kStr) a) := by
  have hl : a.length ≤ 9223372036854775807 := h.1
  intro l h0 h1
  simp only [P_w_szStrS, B_w_szStrS]
  rw [w64 (by omega) (by omega)]
  by_cases hn : l - (a.length : Int) < 0
  · rw [dec_true hn]; exact ⟨-1, rfl, by omega, fun h => by omega⟩
  rw [dec_false hn]; simp only [cond_false]
  obtain ⟨r, e, h2, h3⟩ := szS_gen P_w_szStr (fun x => Sm 1048576 kStr x) (L_w_szStrS_0 P_w_szStr a) a h.1 (fun x hx => szStr_ok x (h.2 x hx)) (by
    intro i hi l
    have g1 : ((i : Int) < (a.length : Int)) := by omega
    have g2 : (0 : Int) ≤ (i : Int) := by omega
    simp only [L_w_szStrS_0, dec_true g1, dec_true g2, cond_true]
    rw [rd_nat (k := kStr) (xs := a) hi]
    ) (fun l => by simp [L_w_szStrS_0]) (l - (a.length : Int)) (by omega) (by omega)
  exact ⟨r, e, by omega, fun h => ⟨by omega, h3 h⟩⟩
theorem szConn_ok (a : TConn) (h : Sm maxLen kConnx a) : SzOk (P_w_szConn a) (Sm 1048576 kConnx a) := by
  intro l h0 h1
  simp only [P_w_szConn, B_w_szConn]
  obtain ⟨r1, e1, u1, v1⟩ := szByteS_ok a.2.1 (Sm.l (Sm.r h)) l (by omega) (by omega)
  rw [e1]; simp only [bindO]
  by_cases n1 : r1 < 0
  · rw [dec_true n1]; exact ⟨-1, rfl, by omega, fun h => by omega⟩
  rw [dec_false n1]; simp only [cond_false]
  obtain ⟨r2, e2, u2, v2⟩ := szGather_ok a.2.2.1 (Sm.l (Sm.r (Sm.r h))) r1 (by omega) (by omega)
  rw [e2]; simp only [bindO]
  by_cases n2 : r2 < 0
  · rw [dec_true n2]; exact ⟨-1, rfl, by omega, fun h => by omega⟩
  rw [dec_false n2]; simp only [cond_false]
  obtain ⟨r3, e3, u3, v3⟩ := szTable_ok a.2.2.2.1 (Sm.l (Sm.r (Sm.r (Sm.r h)))) r2 (by omega) (by omega)
  rw [e3]; simp only [bindO]
  by_cases n3 : r3 < 0
  · rw [dec_true n3]; exact ⟨-1, rfl, by omega, fun h => by omega⟩
  rw [dec_false n3]; simp only [cond_false]
  obtain ⟨r4, e4, u4, v4⟩ := szTable_ok a.2.2.2.2.1 (Sm.l (Sm.r (Sm.r (Sm.r (Sm.r h))))) r3 (by omega) (by omega)
  rw [e4]; simp only [bindO]
  by_cases n4 : r4 < 0
  · rw [dec_true n4]; exact ⟨-1, rfl, by omega, fun h => by omega⟩
  rw [dec_false n4]; simp only [cond_false]
  obtain ⟨r5, e5, u5, v5⟩ := szStrS_ok a.2.2.2.2.2.1 (Sm.l (Sm.r (Sm.r (Sm.r (Sm.r (Sm.r h)))))) r4 (by omega) (by omega)
  rw [e5]; simp only [bindO]
  by_cases n5 : r5 < 0
  · rw [dec_true n5]; exact ⟨-1, rfl, by omega, fun h => by omega⟩
  rw [dec_false n5]; simp only [cond_false]
  exact ⟨_, rfl, by omega, fun _ => ⟨by simp [Sm], ⟨v1 (by omega), ⟨v2 (by omega), ⟨v3 (by omega), ⟨v4 (by omega), ⟨v5 (by omega), ⟨by simp [Sm], by simp [Sm]⟩⟩⟩⟩⟩⟩⟩⟩
theorem szStringS_ok (a : List ByteArray) (h : Sm maxLen (.sl 9 .str) a) : SzOk (P_w_szStringS a) (Sm 1048576 (.sl 9 .str) a) := by
  have hl : a.length ≤ 9223372036854775807 := h.1
  intro l h0 h1
  simp only [P_w_szStringS, B_w_szStringS]
  rw [w64 (by omega) (by omega)]
  by_cases hn : l - (a.length : Int) < 0
  · rw [dec_true hn]; exact ⟨-1, rfl, by omega, fun h => by omega⟩
  rw [dec_false hn]; simp only [cond_false]
  obtain ⟨r, e, h2, h3⟩ := szS_gen (fun (x : ByteArray) l => some (IntKind.i64.wrap (l - (x.size : Int)), ())) (fun x => Sm 1048576 .str x) (L_w_szStringS_0 a) a h.1 (fun x hx l h0 h1 => ⟨_, rfl, by have := h.2 x hx; simp only [Sm, maxLen] at this; rw [w64 (by omega) (by omega)]; omega, fun hr => by have := h.2 x hx; simp only [Sm, maxLen] at this ⊢; rw [w64 (by omega) (by omega)] at hr; omega⟩) (by
    intro i hi l
    have g1 : ((i : Int) < (a.length : Int)) := by omega
    have g2 : (0 : Int) ≤ (i : Int) := by omega
    simp only [L_w_szStringS_0, dec_true g1, dec_true g2, cond_true]
    rw [rd_str (xs := a) hi]
    rfl
    ) (fun l => by simp [L_w_szStringS_0]) (l - (a.length : Int)) (by omega) (by omega)
  exact ⟨r, e, by omega, fun h => ⟨by omega, h3 h⟩⟩
theorem szDisk_ok (a : TDisk) (h : Sm maxLen kDisk a) : SzOk (P_w_szDisk a) (Sm 1048576 kDisk a) := by
  intro l h0 h1
  simp only [P_w_szDisk, B_w_szDisk]
  obtain ⟨r1, e1, u1, v1⟩ := szStringS_ok a.1 (Sm.l h) l (by omega) (by omega)
  rw [e1]; simp only [bindO]
  by_cases n1 : r1 < 0
  · rw [dec_true n1]; exact ⟨-1, rfl, by omega, fun h => by omega⟩
  rw [dec_false n1]; simp only [cond_false]
  obtain ⟨r2, e2, u2, v2⟩ := szStringS_ok a.2 (Sm.r h) r1 (by omega) (by omega)
  rw [e2]; simp only [bindO]
  by_cases n2 : r2 < 0
  · rw [dec_true n2]; exact ⟨-1, rfl, by omega, fun h => by omega⟩
  rw [dec_false n2]; simp only [cond_false]
  exact ⟨_, rfl, by omega, fun _ => ⟨v1 (by omega), v2 (by omega)⟩⟩
theorem szHeldS_ok (a : List THeld) (h : Sm maxLen (.sl 209 kHeld) a) : SzOk (P_w_szHeldS a) (Sm 1048576 (.sl 209 kHeld) a) := by
  have hl : a.length ≤ 9223372036854775807 := h.1
  intro l h0 h1
  simp only [P_w_szHeldS, B_w_szHeldS]
  rw [w64 (by omega) (by omega)]
  by_cases hn : l - (a.length : Int) < 0
  · rw [dec_true hn]; exact ⟨-1, rfl, by omega, fun h => by omega⟩
  rw [dec_false hn]; simp only [cond_false]
  exact ⟨_, rfl, by omega, fun _ => ⟨by omega, fun x _ => by simp [Sm]⟩⟩
theorem szIntS_ok (a : List Int) (h : Sm maxLen (.sl 3 (.int .i64)) a) : SzOk (P_w_szIntS a) (Sm 1048576 (.sl 3 (.int .i64)) a) := by
  have hl : a.length ≤ 9223372036854775807 := h.1
  intro l h0 h1
  simp only [P_w_szIntS, B_w_szIntS]
  rw [w64 (by omega) (by omega)]
  by_cases hn : l - (a.length : Int) < 0
  · rw [dec_true hn]; exact ⟨-1, rfl, by omega, fun h => by omega⟩
  rw [dec_false hn]; simp only [cond_false]
  exact ⟨_, rfl, by omega, fun _ => ⟨by omega, fun x _ => by simp [Sm]⟩⟩
theorem szUp_ok (a : TUp) (h : Sm maxLen kUp a) : SzOk (P_w_szUp a) (Sm 1048576 kUp a) := by
  intro l h0 h1
  simp only [P_w_szUp, B_w_szUp]
  have z1 : a.1.size ≤ 9223372036854775807 := (Sm.l h)
  rw [w64 (n := l - (a.1.size : Int)) (by omega) (by omega)]
  by_cases n1 : l - (a.1.size : Int) < 0
  · rw [dec_true n1]; exact ⟨-1, rfl, by omega, fun h => by omega⟩
  rw [dec_false n1]; simp only [cond_false]
  obtain ⟨r2, e2, u2, v2⟩ := szByteS_ok a.2.2.1 (Sm.l (Sm.r (Sm.r h))) (l - (a.1.size : Int)) (by omega) (by omega)
  rw [e2]; simp only [bindO]
  by_cases n2 : r2 < 0
  · rw [dec_true n2]; exact ⟨-1, rfl, by omega, fun h => by omega⟩
  rw [dec_false n2]; simp only [cond_false]
  exact ⟨_, rfl, by omega, fun _ => ⟨by show a.1.size ≤ 1048576; omega, ⟨by simp [Sm], ⟨v2 (by omega), by simp [Sm]⟩⟩⟩⟩
theorem szUpS_ok (a : List TUp) (h : Sm maxLen (.sl 234 kUp) a) : SzOk (P_w_szUpS a) (Sm 1048576 (.sl 234 kUp) a) := by
  have hl : a.length ≤ 9223372036854775807 := h.1
  intro l h0 h1
  simp only [P_w_szUpS, B_w_szUpS]
  rw [w64 (by omega) (by omega)]
  by_cases hn : l - (a.length : Int) < 0
  · rw [dec_true hn]; exact ⟨-1, rfl, by omega, fun h => by omega⟩
  rw [dec_false hn]; simp only [cond_false]
  obtain ⟨r, e, h2, h3⟩ := szS_gen P_w_szUp (fun x => Sm 1048576 kUp x) (L_w_szUpS_0 P_w_szUp a) a h.1 (fun x hx => szUp_ok x (h.2 x hx)) (by
    intro i hi l
    have g1 : ((i : Int) < (a.length : Int)) := by omega
    have g2 : (0 : Int) ≤ (i : Int) := by omega
    simp only [L_w_szUpS_0, dec_true g1, dec_true g2, cond_true]
    rw [rd_nat (k := kUp) (xs := a) hi]
    ) (fun l => by simp [L_w_szUpS_0]) (l - (a.length : Int)) (by omega) (by omega)
  exact ⟨r, e, by omega, fun h => ⟨by omega, h3 h⟩⟩
theorem szStore_ok (a : TStore) (h : Sm maxLen kStorex a) : SzOk (P_w_szStore a) (Sm 1048576 kStorex a) := by
  intro l h0 h1
  simp only [P_w_szStore, B_w_szStore]
  obtain ⟨r1, e1, u1, v1⟩ := szDisk_ok a.1 (Sm.l h) l (by omega) (by omega)
  rw [e1]; simp only [bindO]
  by_cases n1 : r1 < 0
  · rw [dec_true n1]; exact ⟨-1, rfl, by omega, fun h => by omega⟩
  rw [dec_false n1]; simp only [cond_false]
  obtain ⟨r2, e2, u2, v2⟩ := szUpS_ok a.2.2.2 (Sm.r (Sm.r (Sm.r h))) r1 (by omega) (by omega)
  rw [e2]; simp only [bindO]
  by_cases n2 : r2 < 0
  · rw [dec_true n2]; exact ⟨-1, rfl, by omega, fun h => by omega⟩
  rw [dec_false n2]; simp only [cond_false]
  exact ⟨_, rfl, by omega, fun _ => ⟨v1 (by omega), ⟨by simp [Sm], ⟨by simp [Sm], v2 (by omega)⟩⟩⟩⟩
theorem szServer_ok (a : TServer) (h : Sm maxLen kServerx a) : SzOk (P_w_szServer a) (Sm 1048576 kServerx a) := by
  intro l h0 h1
  simp only [P_w_szServer, B_w_szServer]
  obtain ⟨r1, e1, u1, v1⟩ := szStore_ok a.1 (Sm.l h) l (by omega) (by omega)
  rw [e1]; simp only [bindO]
  by_cases n1 : r1 < 0
  · rw [dec_true n1]; exact ⟨-1, rfl, by omega, fun h => by omega⟩
  rw [dec_false n1]; simp only [cond_false]
  obtain ⟨r2, e2, u2, v2⟩ := szHeldS_ok a.2 (Sm.r h) r1 (by omega) (by omega)
  rw [e2]; simp only [bindO]
  by_cases n2 : r2 < 0
  · rw [dec_true n2]; exact ⟨-1, rfl, by omega, fun h => by omega⟩
  rw [dec_false n2]; simp only [cond_false]
  exact ⟨_, rfl, by omega, fun _ => ⟨v1 (by omega), v2 (by omega)⟩⟩
theorem szWant_ok (a : TWant) (h : Sm maxLen kWant a) : SzOk (P_w_szWant a) (Sm 1048576 kWant a) := by
  intro l h0 h1
  simp only [P_w_szWant, B_w_szWant]
  obtain ⟨r1, e1, u1, v1⟩ := szReq_ok a.2.1 (Sm.l (Sm.r h)) l (by omega) (by omega)
  rw [e1]; simp only [bindO]
  by_cases n1 : r1 < 0
  · rw [dec_true n1]; exact ⟨-1, rfl, by omega, fun h => by omega⟩
  rw [dec_false n1]; simp only [cond_false]
  obtain ⟨r2, e2, u2, v2⟩ := szByteS_ok a.2.2 (Sm.r (Sm.r h)) r1 (by omega) (by omega)
  rw [e2]; simp only [bindO]
  by_cases n2 : r2 < 0
  · rw [dec_true n2]; exact ⟨-1, rfl, by omega, fun h => by omega⟩
  rw [dec_false n2]; simp only [cond_false]
  exact ⟨_, rfl, by omega, fun _ => ⟨by simp [Sm], ⟨v1 (by omega), v2 (by omega)⟩⟩⟩
theorem szWantS_ok (a : List TWant) (h : Sm maxLen (.sl 202 kWant) a) : SzOk (P_w_szWantS a) (Sm 1048576 (.sl 202 kWant) a) := by
  have hl : a.length ≤ 9223372036854775807 := h.1
  intro l h0 h1
  simp only [P_w_szWantS, B_w_szWantS]
  rw [w64 (by omega) (by omega)]
  by_cases hn : l - (a.length : Int) < 0
  · rw [dec_true hn]; exact ⟨-1, rfl, by omega, fun h => by omega⟩
  rw [dec_false hn]; simp only [cond_false]
  obtain ⟨r, e, h2, h3⟩ := szS_gen P_w_szWant (fun x => Sm 1048576 kWant x) (L_w_szWantS_0 P_w_szWant a) a h.1 (fun x hx => szWant_ok x (h.2 x hx)) (by
    intro i hi l
    have g1 : ((i : Int) < (a.length : Int)) := by omega
    have g2 : (0 : Int) ≤ (i : Int) := by omega
    simp only [L_w_szWantS_0, dec_true g1, dec_true g2, cond_true]
    rw [rd_nat (k := kWant) (xs := a) hi]
    ) (fun l => by simp [L_w_szWantS_0]) (l - (a.length : Int)) (by omega) (by omega)
  exact ⟨r, e, by omega, fun h => ⟨by omega, h3 h⟩⟩
theorem szWorld_ok (a : TWorld) (h : Sm maxLen kWorldx a) : SzOk (P_w_szWorld a) (Sm 1048576 kWorldx a) := by
  intro l h0 h1
  simp only [P_w_szWorld, B_w_szWorld]
  obtain ⟨r1, e1, u1, v1⟩ := szServer_ok a.1 (Sm.l h) l (by omega) (by omega)
  rw [e1]; simp only [bindO]
  by_cases n1 : r1 < 0
  · rw [dec_true n1]; exact ⟨-1, rfl, by omega, fun h => by omega⟩
  rw [dec_false n1]; simp only [cond_false]
  obtain ⟨r2, e2, u2, v2⟩ := szClientS_ok a.2.1 (Sm.l (Sm.r h)) r1 (by omega) (by omega)
  rw [e2]; simp only [bindO]
  by_cases n2 : r2 < 0
  · rw [dec_true n2]; exact ⟨-1, rfl, by omega, fun h => by omega⟩
  rw [dec_false n2]; simp only [cond_false]
  obtain ⟨r3, e3, u3, v3⟩ := szBoolS_ok a.2.2.1 (Sm.l (Sm.r (Sm.r h))) r2 (by omega) (by omega)
  rw [e3]; simp only [bindO]
  by_cases n3 : r3 < 0
  · rw [dec_true n3]; exact ⟨-1, rfl, by omega, fun h => by omega⟩
  rw [dec_false n3]; simp only [cond_false]
  obtain ⟨r4, e4, u4, v4⟩ := szWantS_ok a.2.2.2.1 (Sm.l (Sm.r (Sm.r (Sm.r h)))) r3 (by omega) (by omega)
  rw [e4]; simp only [bindO]
  by_cases n4 : r4 < 0
  · rw [dec_true n4]; exact ⟨-1, rfl, by omega, fun h => by omega⟩
  rw [dec_false n4]; simp only [cond_false]
  obtain ⟨r5, e5, u5, v5⟩ := szHeldS_ok a.2.2.2.2.1 (Sm.l (Sm.r (Sm.r (Sm.r (Sm.r h))))) r4 (by omega) (by omega)
  rw [e5]; simp only [bindO]
  by_cases n5 : r5 < 0
  · rw [dec_true n5]; exact ⟨-1, rfl, by omega, fun h => by omega⟩
  rw [dec_false n5]; simp only [cond_false]
  obtain ⟨r6, e6, u6, v6⟩ := szIntS_ok a.2.2.2.2.2 (Sm.r (Sm.r (Sm.r (Sm.r (Sm.r h))))) r5 (by omega) (by omega)
  rw [e6]; simp only [bindO]
  by_cases n6 : r6 < 0
  · rw [dec_true n6]; exact ⟨-1, rfl, by omega, fun h => by omega⟩
  rw [dec_false n6]; simp only [cond_false]
  exact ⟨_, rfl, by omega, fun _ => ⟨v1 (by omega), ⟨v2 (by omega), ⟨v3 (by omega), ⟨v4 (by omega), ⟨v5 (by omega), v6 (by omega)⟩⟩⟩⟩⟩⟩
theorem toBoolS_eq (a : List Bool) (h : Sm 1048576 (.sl 4 .bool) a) : P_w_toBoolS a = some (a, ()) := by
  have hl : a.length ≤ 1048576 := h.1
  simp only [P_w_toBoolS, B_w_toBoolS]
  rw [dec_true (show (0 : Int) ≤ (a.length : Int) by omega), Int.toNat_natCast, dec_true (by omega), dec_true (by omega)]
  simp only [cond_true]
  refine toS_gen _ a _ (by simp only [maxLen]; omega) (fun i hi b hb => ?_) (fun b => by simp [L_w_toBoolS_0])
  have h1 : ((i : Int) < (a.length : Int)) := by omega
  have h2 : (0 : Int) ≤ (i : Int) := by omega
  simp only [L_w_toBoolS_0, hb, dec_true h1, dec_true h2, cond_true]
  rw [rd_bool (xs := a) hi]
  rfl
theorem toClient_sm (a : TClient) (h : Sm 1048576 kClient a) : P_w_toClient a = some (a, ()) := by
  simp only [P_w_toClient, B_w_toClient, bindO, toByteS_sm a.2.1 (Sm.l (Sm.r h))]
theorem toClientS_eq (a : List TClient) (h : Sm 1048576 (.sl 24 kClient) a) : P_w_toClientS a = some (a, ()) := by
  have hl : a.length ≤ 1048576 := h.1
  simp only [P_w_toClientS, B_w_toClientS]
  rw [dec_true (show (0 : Int) ≤ (a.length : Int) by omega), Int.toNat_natCast, dec_true (by omega), dec_true (by omega)]
  simp only [cond_true]
  refine toS_gen _ a _ (by simp only [maxLen]; omega) (fun i hi b hb => ?_) (fun b => by simp [L_w_toClientS_0])
  have h1 : ((i : Int) < (a.length : Int)) := by omega
  have h2 : (0 : Int) ≤ (i : Int) := by omega
  simp only [L_w_toClientS_0, hb, dec_true h1, dec_true h2, cond_true]
  rw [rd_nat (k := kClient) (xs := a) hi]
  rw [toClient_sm _ (h.2 _ (List.getElem_mem hi))]
  rfl
theorem toGather_eq (a : TGather) (h : Sm 1048576 kGather a) : P_w_toGather a = some (a, ()) := by
  simp only [P_w_toGather, B_w_toGather, bindO, toByteS_sm a.2.2 (Sm.r (Sm.r h))]
theorem toField_eq (a : TField) (h : Sm 1048576 kField a) : P_w_toField a = some (a, ()) := by
  simp only [P_w_toField, B_w_toField, bindO]
theorem toFieldS_eq (a : List TField) (h : Sm 1048576 (.sl 224 kField) a) : P_w_toFieldS a = some (a, ()) := by
  have hl : a.length ≤ 1048576 := h.1
  simp only [P_w_toFieldS, B_w_toFieldS]
  rw [dec_true (show (0 : Int) ≤ (a.length : Int) by omega), Int.toNat_natCast, dec_true (by omega), dec_true (by omega)]
  simp only [cond_true]
  refine toS_gen _ a _ (by simp only [maxLen]; omega) (fun i hi b hb => ?_) (fun b => by simp [L_w_toFieldS_0])
  have h1 : ((i : Int) < (a.length : Int)) := by omega
  have h2 : (0 : Int) ≤ (i : Int) := by omega
  simp only [L_w_toFieldS_0, hb, dec_true h1, dec_true h2, cond_true]
  rw [rd_nat (k := kField) (xs := a) hi]
  rw [toField_eq _ (h.2 _ (List.getElem_mem hi))]
  rfl
theorem toTable_eq (a : TTable) (h : Sm 1048576 kTablex a) : P_w_toTable a = some (a, ()) := by
  simp only [P_w_toTable, B_w_toTable, bindO, toFieldS_eq a.2 (Sm.r h)]
theorem toReq_eq (a : TReq) (h : Sm 1048576 kReq a) : P_w_toReq a = some (a, ()) := by
  simp only [P_w_toReq, B_w_toReq, bindO]
theorem toStr_eq (a : TStr) (h : Sm 1048576 kStr a) : P_w_toStr a = some (a, ()) := by
  simp only [P_w_toStr, B_w_toStr, bindO, toReq_eq a.2.2.1 (Sm.l (Sm.r (Sm.r h))), toByteS_sm a.2.2.2 (Sm.r (Sm.r (Sm.r h)))]
theorem toStrS_eq (a : List TStr) (h : Sm 1048576 (.sl 193 kStr) a) : P_w_toStrS a = some (a, ()) := by
  have hl : a.length ≤ 1048576 := h.1
  simp only [P_w_toStrS, B_w_toStrS]
  rw [dec_true (show (0 : Int) ≤ (a.length : Int) by omega), Int.toNat_natCast, dec_true (by omega), dec_true (by omega)]
  simp only [cond_true]
  refine toS_gen _ a _ (by simp only [maxLen]; omega) (fun i hi b hb => ?_) (fun b => by simp [L_w_toStrS_0])
  have h1 : ((i : Int) < (a.length : Int)) := by omega
  have h2 : (0 : Int) ≤ (i : Int) := by omega
  simp only [L_w_toStrS_0, hb, dec_true h1, dec_true h2, cond_true]
  rw [rd_nat (k := kStr) (xs := a) hi]
  rw [toStr_eq _ (h.2 _ (List.getElem_mem hi))]
  rfl
theorem toConn_eq (a : TConn) (h : Sm 1048576 kConnx a) : P_w_toConn a = some (a, ()) := by
  simp only [P_w_toConn, B_w_toConn, bindO, toByteS_sm a.2.1 (Sm.l (Sm.r h)), toGather_eq a.2.2.1 (Sm.l (Sm.r (Sm.r h))), toTable_eq a.2.2.2.1 (Sm.l (Sm.r (Sm.r (Sm.r h)))), toTable_eq a.2.2.2.2.1 (Sm.l (Sm.r (Sm.r (Sm.r (Sm.r h))))), toStrS_eq a.2.2.2.2.2.1 (Sm.l (Sm.r (Sm.r (Sm.r (Sm.r (Sm.r h))))))]
theorem toStringS_eq (a : List ByteArray) (h : Sm 1048576 (.sl 9 .str) a) : P_w_toStringS a = some (a, ()) := by
  have hl : a.length ≤ 1048576 := h.1
  simp only [P_w_toStringS, B_w_toStringS]
  rw [dec_true (show (0 : Int) ≤ (a.length : Int) by omega), Int.toNat_natCast, dec_true (by omega), dec_true (by omega)]
  simp only [cond_true]
  refine toS_gen _ a _ (by simp only [maxLen]; omega) (fun i hi b hb => ?_) (fun b => by simp [L_w_toStringS_0])
  have h1 : ((i : Int) < (a.length : Int)) := by omega
  have h2 : (0 : Int) ≤ (i : Int) := by omega
  simp only [L_w_toStringS_0, hb, dec_true h1, dec_true h2, cond_true]
  rw [rd_str (xs := a) hi]
  rfl
theorem toDisk_eq (a : TDisk) (h : Sm 1048576 kDisk a) : P_w_toDisk a = some (a, ()) := by
  simp only [P_w_toDisk, B_w_toDisk, bindO, toStringS_eq a.1 (Sm.l h), toStringS_eq a.2 (Sm.r h)]
theorem toResp_sm (a : TResp) (h : Sm 1048576 kResp a) : P_w_toResp a = some (a, ()) := by
  simp only [P_w_toResp, B_w_toResp, bindO]
theorem toHeld_eq (a : THeld) (h : Sm 1048576 kHeld a) : P_w_toHeld a = some (a, ()) := by
  simp only [P_w_toHeld, B_w_toHeld, bindO, toResp_sm a.2 (Sm.r h)]
theorem toHeldS_eq (a : List THeld) (h : Sm 1048576 (.sl 209 kHeld) a) : P_w_toHeldS a = some (a, ()) := by
  have hl : a.length ≤ 1048576 := h.1
  simp only [P_w_toHeldS, B_w_toHeldS]
  rw [dec_true (show (0 : Int) ≤ (a.length : Int) by omega), Int.toNat_natCast, dec_true (by omega), dec_true (by omega)]
  simp only [cond_true]
  refine toS_gen _ a _ (by simp only [maxLen]; omega) (fun i hi b hb => ?_) (fun b => by simp [L_w_toHeldS_0])
  have h1 : ((i : Int) < (a.length : Int)) := by omega
  have h2 : (0 : Int) ≤ (i : Int) := by omega
  simp only [L_w_toHeldS_0, hb, dec_true h1, dec_true h2, cond_true]
  rw [rd_nat (k := kHeld) (xs := a) hi]
  rw [toHeld_eq _ (h.2 _ (List.getElem_mem hi))]
  rfl
theorem toIntS_eq (a : List Int) (h : Sm 1048576 (.sl 3 (.int .i64)) a) : P_w_toIntS a = some (a, ()) := by
  have hl : a.length ≤ 1048576 := h.1
  simp only [P_w_toIntS, B_w_toIntS]
  rw [dec_true (show (0 : Int) ≤ (a.length : Int) by omega), Int.toNat_natCast, dec_true (by omega), dec_true (by omega)]
  simp only [cond_true]
  refine toS_gen _ a _ (by simp only [maxLen]; omega) (fun i hi b hb => ?_) (fun b => by simp [L_w_toIntS_0])
  have h1 : ((i : Int) < (a.length : Int)) := by omega
  have h2 : (0 : Int) ≤ (i : Int) := by omega
  simp only [L_w_toIntS_0, hb, dec_true h1, dec_true h2, cond_true]
  rw [rd_int (xs := a) hi]
  rfl
theorem toUp_eq (a : TUp) (h : Sm 1048576 kUp a) : P_w_toUp a = some (a, ()) := by
  simp only [P_w_toUp, B_w_toUp, bindO, toByteS_sm a.2.2.1 (Sm.l (Sm.r (Sm.r h)))]
theorem toUpS_eq (a : List TUp) (h : Sm 1048576 (.sl 234 kUp) a) : P_w_toUpS a = some (a, ()) := by
  have hl : a.length ≤ 1048576 := h.1
  simp only [P_w_toUpS, B_w_toUpS]
  rw [dec_true (show (0 : Int) ≤ (a.length : Int) by omega), Int.toNat_natCast, dec_true (by omega), dec_true (by omega)]
  simp only [cond_true]
  refine toS_gen _ a _ (by simp only [maxLen]; omega) (fun i hi b hb => ?_) (fun b => by simp [L_w_toUpS_0])
  have h1 : ((i : Int) < (a.length : Int)) := by omega
  have h2 : (0 : Int) ≤ (i : Int) := by omega
  simp only [L_w_toUpS_0, hb, dec_true h1, dec_true h2, cond_true]
  rw [rd_nat (k := kUp) (xs := a) hi]
  rw [toUp_eq _ (h.2 _ (List.getElem_mem hi))]
  rfl
theorem toStore_eq (a : TStore) (h : Sm 1048576 kStorex a) : P_w_toStore a = some (a, ()) := by
  simp only [P_w_toStore, B_w_toStore, bindO, toDisk_eq a.1 (Sm.l h), toUpS_eq a.2.2.2 (Sm.r (Sm.r (Sm.r h)))]
theorem toServer_eq (a : TServer) (h : Sm 1048576 kServerx a) : P_w_toServer a = some (a, ()) := by
  simp only [P_w_toServer, B_w_toServer, bindO, toStore_eq a.1 (Sm.l h), toHeldS_eq a.2 (Sm.r h)]
theorem toWant_eq (a : TWant) (h : Sm 1048576 kWant a) : P_w_toWant a = some (a, ()) := by
  simp only [P_w_toWant, B_w_toWant, bindO, toReq_eq a.2.1 (Sm.l (Sm.r h)), toByteS_sm a.2.2 (Sm.r (Sm.r h))]
theorem toWantS_eq (a : List TWant) (h : Sm 1048576 (.sl 202 kWant) a) : P_w_toWantS a = some (a, ()) := by
  have hl : a.length ≤ 1048576 := h.1
  simp only [P_w_toWantS, B_w_toWantS]
  rw [dec_true (show (0 : Int) ≤ (a.length : Int) by omega), Int.toNat_natCast, dec_true (by omega), dec_true (by omega)]
  simp only [cond_true]
  refine toS_gen _ a _ (by simp only [maxLen]; omega) (fun i hi b hb => ?_) (fun b => by simp [L_w_toWantS_0])
  have h1 : ((i : Int) < (a.length : Int)) := by omega
  have h2 : (0 : Int) ≤ (i : Int) := by omega
  simp only [L_w_toWantS_0, hb, dec_true h1, dec_true h2, cond_true]
  rw [rd_nat (k := kWant) (xs := a) hi]
  rw [toWant_eq _ (h.2 _ (List.getElem_mem hi))]
  rfl
theorem toWorld_eq (a : TWorld) (h : Sm 1048576 kWorldx a) : P_w_toWorld a = some (a, ()) := by
  simp only [P_w_toWorld, B_w_toWorld, bindO, toServer_eq a.1 (Sm.l h), toClientS_eq a.2.1 (Sm.l (Sm.r h)), toBoolS_eq a.2.2.1 (Sm.l (Sm.r (Sm.r h))), toWantS_eq a.2.2.2.1 (Sm.l (Sm.r (Sm.r (Sm.r h)))), toHeldS_eq a.2.2.2.2.1 (Sm.l (Sm.r (Sm.r (Sm.r (Sm.r h))))), toIntS_eq a.2.2.2.2.2 (Sm.r (Sm.r (Sm.r (Sm.r (Sm.r h)))))]
theorem eqBoolS_refl (a : List Bool) (h : Sm maxLen (.sl 4 .bool) a) : P_w_eqBoolS a a = some (true, ()) := by
  simp only [P_w_eqBoolS, B_w_eqBoolS, decide_true, Bool.not_true, cond_false]
  refine eqS_gen _ a.length h.1 (fun i hi => ?_) (by simp [L_w_eqBoolS_0])
  have h1 : ((i : Int) < (a.length : Int)) := by omega
  have h2 : (0 : Int) ≤ (i : Int) := by omega
  simp only [L_w_eqBoolS_0, dec_true h1, dec_true h2, cond_true]
  simp
theorem eqClient_sm (a : TClient) (h : Sm maxLen kClient a) : P_w_eqClient a a = some (true, ()) := by
  simp [P_w_eqClient, B_w_eqClient, bindO, eqByteS_sm a.2.1 (Sm.l (Sm.r h))]
theorem eqClientS_refl (a : List TClient) (h : Sm maxLen (.sl 30 kClient) a) : P_w_eqClientS a a = some (true, ()) := by
  simp only [P_w_eqClientS, B_w_eqClientS, decide_true, Bool.not_true, cond_false]
  refine eqS_gen _ a.length h.1 (fun i hi => ?_) (by simp [L_w_eqClientS_0])
  have h1 : ((i : Int) < (a.length : Int)) := by omega
  have h2 : (0 : Int) ≤ (i : Int) := by omega
  simp only [L_w_eqClientS_0, dec_true h1, dec_true h2, cond_true]
  rw [rd_nat (k := kClient) (xs := a) hi, eqClient_sm _ (h.2 _ (List.getElem_mem hi))]
  rfl
theorem eqGather_refl (a : TGather) (h : Sm maxLen kGather a) : P_w_eqGather a a = some (true, ()) := by
  simp [P_w_eqGather, B_w_eqGather, bindO, eqByteS_sm a.2.2 (Sm.r (Sm.r h))]
theorem eqField_refl (a : TField) (h : Sm maxLen kField a) : P_w_eqField a a = some (true, ()) := by
  simp [P_w_eqField, B_w_eqField, bindO]
theorem eqFieldS_refl (a : List TField) (h : Sm maxLen (.sl 215 kField) a) : P_w_eqFieldS a a = some (true, ()) := by
  simp only [P_w_eqFieldS, B_w_eqFieldS, decide_true, Bool.not_true, cond_false]
  refine eqS_gen _ a.length h.1 (fun i hi => ?_) (by simp [L_w_eqFieldS_0])
  have h1 : ((i : Int) < (a.length : Int)) := by omega
  have h2 : (0 : Int) ≤ (i : Int) := by omega
  simp only [L_w_eqFieldS_0, dec_true h1, dec_true h2, cond_true]
  rw [rd_nat (k := kField) (xs := a) hi, eqField_refl _ (h.2 _ (List.getElem_mem hi))]
  rfl
theorem eqTable_refl (a : TTable) (h : Sm maxLen kTable a) : P_w_eqTable a a = some (true, ()) := by
  simp [P_w_eqTable, B_w_eqTable, bindO, eqFieldS_refl a.2 (Sm.r h)]
theorem eqReq_sm (a : TReq) (h : Sm maxLen kReq a) : P_w_eqReq a a = some (true, ()) := by
  simp [P_w_eqReq, B_w_eqReq, bindO]
theorem eqStr_refl (a : TStr) (h : Sm maxLen kStr a) : P_w_eqStr a a = some (true, ()) := by
  simp [P_w_eqStr, B_w_eqStr, bindO, eqReq_sm a.2.2.1 (Sm.l (Sm.r (Sm.r h))), eqByteS_sm a.2.2.2 (Sm.r (Sm.r (Sm.r h)))]
theorem eqStrS_refl (a : List TStr) (h : Sm maxLen (.sl 173 kStr) a) : P_w_eqStrS a a = some (true, ()) := by
  simp only [P_w_eqStrS, B_w_eqStrS, decide_true, Bool.not_true, cond_false]
  refine eqS_gen _ a.length h.1 (fun i hi => ?_) (by simp [L_w_eqStrS_0])
  have h1 : ((i : Int) < (a.length : Int)) := by omega
  have h2 : (0 : Int) ≤ (i : Int) := by omega
  simp only [L_w_eqStrS_0, dec_true h1, dec_true h2, cond_true]
  rw [rd_nat (k := kStr) (xs := a) hi, eqStr_refl _ (h.2 _ (List.getElem_mem hi))]
  rfl
theorem eqConn_refl (a : TConn) (h : Sm maxLen kConn a) : P_w_eqConn a a = some (true, ()) := by
  simp [P_w_eqConn, B_w_eqConn, bindO, eqByteS_sm a.2.1 (Sm.l (Sm.r h)), eqGather_refl a.2.2.1 (Sm.l (Sm.r (Sm.r h))), eqTable_refl a.2.2.2.1 (Sm.l (Sm.r (Sm.r (Sm.r h)))), eqTable_refl a.2.2.2.2.1 (Sm.l (Sm.r (Sm.r (Sm.r (Sm.r h))))), eqStrS_refl a.2.2.2.2.2.1 (Sm.l (Sm.r (Sm.r (Sm.r (Sm.r (Sm.r h))))))]
theorem eqStringS_refl (a : List ByteArray) (h : Sm maxLen (.sl 9 .str) a) : P_w_eqStringS a a = some (true, ()) := by
  simp only [P_w_eqStringS, B_w_eqStringS, decide_true, Bool.not_true, cond_false]
  refine eqS_gen _ a.length h.1 (fun i hi => ?_) (by simp [L_w_eqStringS_0])
  have h1 : ((i : Int) < (a.length : Int)) := by omega
  have h2 : (0 : Int) ≤ (i : Int) := by omega
  simp only [L_w_eqStringS_0, dec_true h1, dec_true h2, cond_true]
  simp
theorem eqDisk_refl (a : TDisk) (h : Sm maxLen kDisk a) : P_w_eqDisk a a = some (true, ()) := by
  simp [P_w_eqDisk, B_w_eqDisk, bindO, eqStringS_refl a.1 (Sm.l h), eqStringS_refl a.2 (Sm.r h)]
theorem eqResp_refl (a : TResp) (h : Sm maxLen kResp a) : P_w_eqResp a a = some (true, ()) := by
  simp [P_w_eqResp, B_w_eqResp, bindO]
theorem eqHeld_refl (a : THeld) (h : Sm maxLen kHeld a) : P_w_eqHeld a a = some (true, ()) := by
  simp [P_w_eqHeld, B_w_eqHeld, bindO, eqResp_refl a.2 (Sm.r h)]
theorem eqHeldS_refl (a : List THeld) (h : Sm maxLen (.sl 186 kHeld) a) : P_w_eqHeldS a a = some (true, ()) := by
  simp only [P_w_eqHeldS, B_w_eqHeldS, decide_true, Bool.not_true, cond_false]
  refine eqS_gen _ a.length h.1 (fun i hi => ?_) (by simp [L_w_eqHeldS_0])
  have h1 : ((i : Int) < (a.length : Int)) := by omega
  have h2 : (0 : Int) ≤ (i : Int) := by omega
  simp only [L_w_eqHeldS_0, dec_true h1, dec_true h2, cond_true]
  rw [rd_nat (k := kHeld) (xs := a) hi, eqHeld_refl _ (h.2 _ (List.getElem_mem hi))]
  rfl
theorem eqIntS_refl (a : List Int) (h : Sm maxLen (.sl 3 (.int .i64)) a) : P_w_eqIntS a a = some (true, ()) := by
  simp only [P_w_eqIntS, B_w_eqIntS, decide_true, Bool.not_true, cond_false]
  refine eqS_gen _ a.length h.1 (fun i hi => ?_) (by simp [L_w_eqIntS_0])
  have h1 : ((i : Int) < (a.length : Int)) := by omega
  have h2 : (0 : Int) ≤ (i : Int) := by omega
  simp only [L_w_eqIntS_0, dec_true h1, dec_true h2, cond_true]
  simp
theorem eqUp_refl (a : TUp) (h : Sm maxLen kUp a) : P_w_eqUp a a = some (true, ()) := by
  simp [P_w_eqUp, B_w_eqUp, bindO, eqByteS_sm a.2.2.1 (Sm.l (Sm.r (Sm.r h)))]
theorem eqUpS_refl (a : List TUp) (h : Sm maxLen (.sl 161 kUp) a) : P_w_eqUpS a a = some (true, ()) := by
  simp only [P_w_eqUpS, B_w_eqUpS, decide_true, Bool.not_true, cond_false]
  refine eqS_gen _ a.length h.1 (fun i hi => ?_) (by simp [L_w_eqUpS_0])
  have h1 : ((i : Int) < (a.length : Int)) := by omega
  have h2 : (0 : Int) ≤ (i : Int) := by omega
  simp only [L_w_eqUpS_0, dec_true h1, dec_true h2, cond_true]
  rw [rd_nat (k := kUp) (xs := a) hi, eqUp_refl _ (h.2 _ (List.getElem_mem hi))]
  rfl
theorem eqStore_refl (a : TStore) (h : Sm maxLen kStore a) : P_w_eqStore a a = some (true, ()) := by
  simp [P_w_eqStore, B_w_eqStore, bindO, eqDisk_refl a.1 (Sm.l h), eqUpS_refl a.2.2.2 (Sm.r (Sm.r (Sm.r h)))]
theorem eqServer_refl (a : TServer) (h : Sm maxLen kServer a) : P_w_eqServer a a = some (true, ()) := by
  simp [P_w_eqServer, B_w_eqServer, bindO, eqStore_refl a.1 (Sm.l h), eqHeldS_refl a.2 (Sm.r h)]
theorem eqWant_refl (a : TWant) (h : Sm maxLen kWant a) : P_w_eqWant a a = some (true, ()) := by
  simp [P_w_eqWant, B_w_eqWant, bindO, eqReq_sm a.2.1 (Sm.l (Sm.r h)), eqByteS_sm a.2.2 (Sm.r (Sm.r h))]
theorem eqWantS_refl (a : List TWant) (h : Sm maxLen (.sl 205 kWant) a) : P_w_eqWantS a a = some (true, ()) := by
  simp only [P_w_eqWantS, B_w_eqWantS, decide_true, Bool.not_true, cond_false]
  refine eqS_gen _ a.length h.1 (fun i hi => ?_) (by simp [L_w_eqWantS_0])
  have h1 : ((i : Int) < (a.length : Int)) := by omega
  have h2 : (0 : Int) ≤ (i : Int) := by omega
  simp only [L_w_eqWantS_0, dec_true h1, dec_true h2, cond_true]
  rw [rd_nat (k := kWant) (xs := a) hi, eqWant_refl _ (h.2 _ (List.getElem_mem hi))]
  rfl
theorem eqWorld_refl (a : TWorld) (h : Sm maxLen kWorld a) : P_w_eqWorld a a = some (true, ()) := by
  simp [P_w_eqWorld, B_w_eqWorld, bindO, eqServer_refl a.1 (Sm.l h), eqClientS_refl a.2.1 (Sm.l (Sm.r h)), eqBoolS_refl a.2.2.1 (Sm.l (Sm.r (Sm.r h))), eqWantS_refl a.2.2.2.1 (Sm.l (Sm.r (Sm.r (Sm.r h)))), eqHeldS_refl a.2.2.2.2.1 (Sm.l (Sm.r (Sm.r (Sm.r (Sm.r h))))), eqIntS_refl a.2.2.2.2.2 (Sm.r (Sm.r (Sm.r (Sm.r (Sm.r h)))))]
end Go.Proofs.Ytiplpehengcinaa.Ev
