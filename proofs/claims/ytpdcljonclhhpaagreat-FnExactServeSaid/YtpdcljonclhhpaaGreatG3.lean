/- Each function of the program does what its plain function says. -/
import Derived.Test.YtpdcljonclhhpaaGreatG2
set_option linter.unusedVariables false
set_option maxRecDepth 100000
namespace Go.Proofs.YtpdcljonclhhpaaGreat.Ev
abbrev p_w_toUp : List PK := [.val true (.pair .str (.pair (.int .i64) (.pair (.rs 5 (.int .u8)) .bool))) false]
abbrev r_w_toUp : List RK := [.val true kUp]
noncomputable def D_w_toUp (f : Y_w_toUp) : Nat × Fn := (243, ⟨p_w_toUp, r_w_toUp, fun x => f x.1⟩)
noncomputable def F_w_toUp : Fn := (D_w_toUp P_w_toUp).2
theorem E_w_toUp (f_w_toByteS : Y_w_toByteS) : ∀ x, (mkFn cfg [D_w_toByteS f_w_toByteS] (lookN []) 18 [.cell 2 109] (Tryz.f243.body.getD .skip) p_w_toUp r_w_toUp).fn x = B_w_toUp f_w_toByteS x.1 := by intro x; kernel_rfl
theorem S_w_toUp : Sound Tryz.prog 243 F_w_toUp := sm MO cfg_ok (tc Tryz.call34 S_w_toByteS tab_nil) Tryz.func243 (by kernel_rfl) (by decide) (E_w_toUp P_w_toByteS)
def A_w_toUpS : Nat → Option Jn := lookN [(58, ⟨[.t 3 false [.own 7], .t 4 false [.int .i64], .r 7 109 kUp], lt 8 14 [.r 86018, .x 21], false⟩)]
abbrev p_w_toUpS : List PK := [.val false (.rs 248 kUp) false]
abbrev r_w_toUpS : List RK := [.val false (.sl 109 kUp)]
noncomputable def D_w_toUpS (f : Y_w_toUpS) : Nat × Fn := (178, ⟨p_w_toUpS, r_w_toUpS, fun x => f x.1⟩)
noncomputable def F_w_toUpS : Fn := (D_w_toUpS P_w_toUpS).2
theorem E_w_toUpS (f_w_toUp : Y_w_toUp) : ∀ x, (mkFn cfg [D_w_toUp f_w_toUp] A_w_toUpS 23 [.tmp 2] (Tryz.f178.body.getD .skip) p_w_toUpS r_w_toUpS).fn x = B_w_toUpS f_w_toUp x.1 := by intro x; kernel_rfl
theorem S_w_toUpS : Sound Tryz.prog 178 F_w_toUpS := sm MO cfg_ok (tc Tryz.call243 S_w_toUp tab_nil) Tryz.func178 (by kernel_rfl) (by decide) (E_w_toUpS P_w_toUp)
abbrev p_w_toStore : List PK := [.val true (.pair (.pair (.rs 9 .str) (.rs 9 .str)) (.pair (.int .i64) (.pair (.int .i64) (.rs 248 kUp)))) false]
abbrev r_w_toStore : List RK := [.val true kStore]
noncomputable def D_w_toStore (f : Y_w_toStore) : Nat × Fn := (98, ⟨p_w_toStore, r_w_toStore, fun x => f x.1⟩)
noncomputable def F_w_toStore : Fn := (D_w_toStore P_w_toStore).2
theorem E_w_toStore (f_w_toDisk : Y_w_toDisk) (f_w_toUpS : Y_w_toUpS) : ∀ x, (mkFn cfg [D_w_toDisk f_w_toDisk, D_w_toUpS f_w_toUpS] (lookN []) 19 [.cell 2 29] (Tryz.f98.body.getD .skip) p_w_toStore r_w_toStore).fn x = B_w_toStore f_w_toDisk f_w_toUpS x.1 := by intro x; kernel_rfl
theorem S_w_toStore : Sound Tryz.prog 98 F_w_toStore := sm MO cfg_ok (tc Tryz.call177 S_w_toDisk (tc Tryz.call178 S_w_toUpS tab_nil)) Tryz.func98 (by kernel_rfl) (by decide) (E_w_toStore P_w_toDisk P_w_toUpS)
abbrev p_w_toResp : List PK := [.val true kResp false]
abbrev r_w_toResp : List RK := [.val true kResp]
noncomputable def D_w_toResp (f : Y_w_toResp) : Nat × Fn := (244, ⟨p_w_toResp, r_w_toResp, fun x => f x.1⟩)
noncomputable def F_w_toResp : Fn := (D_w_toResp P_w_toResp).2
theorem E_w_toResp : ∀ x, (mkFn cfg [] (lookN []) 11 [.cell 2 126] (Tryz.f244.body.getD .skip) p_w_toResp r_w_toResp).fn x = B_w_toResp x.1 := by intro x; kernel_rfl
theorem S_w_toResp : Sound Tryz.prog 244 F_w_toResp := sm MO cfg_ok tab_nil Tryz.func244 (by kernel_rfl) (by decide) (E_w_toResp)
abbrev p_w_toHeld : List PK := [.val true kHeld false]
abbrev r_w_toHeld : List RK := [.val true kHeld]
noncomputable def D_w_toHeld (f : Y_w_toHeld) : Nat × Fn := (179, ⟨p_w_toHeld, r_w_toHeld, fun x => f x.1⟩)
noncomputable def F_w_toHeld : Fn := (D_w_toHeld P_w_toHeld).2
theorem E_w_toHeld (f_w_toResp : Y_w_toResp) : ∀ x, (mkFn cfg [D_w_toResp f_w_toResp] (lookN []) 12 [.cell 2 130] (Tryz.f179.body.getD .skip) p_w_toHeld r_w_toHeld).fn x = B_w_toHeld f_w_toResp x.1 := by intro x; kernel_rfl
theorem S_w_toHeld : Sound Tryz.prog 179 F_w_toHeld := sm MO cfg_ok (tc Tryz.call244 S_w_toResp tab_nil) Tryz.func179 (by kernel_rfl) (by decide) (E_w_toHeld P_w_toResp)
def A_w_toHeldS : Nat → Option Jn := lookN [(58, ⟨[.t 3 false [.own 7], .t 4 false [.int .i64], .r 7 130 kHeld], lt 8 14 [.x 21], false⟩)]
abbrev p_w_toHeldS : List PK := [.val false (.rs 203 kHeld) false]
abbrev r_w_toHeldS : List RK := [.val false (.sl 130 kHeld)]
noncomputable def D_w_toHeldS (f : Y_w_toHeldS) : Nat × Fn := (99, ⟨p_w_toHeldS, r_w_toHeldS, fun x => f x.1⟩)
noncomputable def F_w_toHeldS : Fn := (D_w_toHeldS P_w_toHeldS).2
theorem E_w_toHeldS (f_w_toHeld : Y_w_toHeld) : ∀ x, (mkFn cfg [D_w_toHeld f_w_toHeld] A_w_toHeldS 23 [.tmp 2] (Tryz.f99.body.getD .skip) p_w_toHeldS r_w_toHeldS).fn x = B_w_toHeldS f_w_toHeld x.1 := by intro x; kernel_rfl
theorem S_w_toHeldS : Sound Tryz.prog 99 F_w_toHeldS := sm MO cfg_ok (tc Tryz.call179 S_w_toHeld tab_nil) Tryz.func99 (by kernel_rfl) (by decide) (E_w_toHeldS P_w_toHeld)
abbrev p_w_toServer : List PK := [.val true (.pair (.pair (.pair (.rs 9 .str) (.rs 9 .str)) (.pair (.int .i64) (.pair (.int .i64) (.rs 248 kUp)))) (.rs 203 kHeld)) false]
abbrev r_w_toServer : List RK := [.val true kServer]
noncomputable def D_w_toServer (f : Y_w_toServer) : Nat × Fn := (32, ⟨p_w_toServer, r_w_toServer, fun x => f x.1⟩)
noncomputable def F_w_toServer : Fn := (D_w_toServer P_w_toServer).2
theorem E_w_toServer (f_w_toStore : Y_w_toStore) (f_w_toHeldS : Y_w_toHeldS) : ∀ x, (mkFn cfg [D_w_toStore f_w_toStore, D_w_toHeldS f_w_toHeldS] (lookN []) 13 [.cell 2 32] (Tryz.f32.body.getD .skip) p_w_toServer r_w_toServer).fn x = B_w_toServer f_w_toStore f_w_toHeldS x.1 := by intro x; kernel_rfl
theorem S_w_toServer : Sound Tryz.prog 32 F_w_toServer := sm MO cfg_ok (tc Tryz.call98 S_w_toStore (tc Tryz.call99 S_w_toHeldS tab_nil)) Tryz.func32 (by kernel_rfl) (by decide) (E_w_toServer P_w_toStore P_w_toHeldS)
abbrev p_w_toReq : List PK := [.val true kReq false]
abbrev r_w_toReq : List RK := [.val true kReq]
noncomputable def D_w_toReq (f : Y_w_toReq) : Nat × Fn := (33, ⟨p_w_toReq, r_w_toReq, fun x => f x.1⟩)
noncomputable def F_w_toReq : Fn := (D_w_toReq P_w_toReq).2
theorem E_w_toReq : ∀ x, (mkFn cfg [] (lookN []) 14 [.cell 2 43] (Tryz.f33.body.getD .skip) p_w_toReq r_w_toReq).fn x = B_w_toReq x.1 := by intro x; kernel_rfl
theorem S_w_toReq : Sound Tryz.prog 33 F_w_toReq := sm MO cfg_ok tab_nil Tryz.func33 (by kernel_rfl) (by decide) (E_w_toReq)
def A_w_eqStringS : Nat → Option Jn := lookN [(58, ⟨[.t 5 false [.int .i64]], lt 11 15 [], false⟩)]
abbrev p_w_eqStringS : List PK := [.val false (.rs 9 .str) false, .val false (.rs 9 .str) false]
abbrev r_w_eqStringS : List RK := [.val false .bool]
noncomputable def D_w_eqStringS (f : Y_w_eqStringS) : Nat × Fn := (245, ⟨p_w_eqStringS, r_w_eqStringS, fun x => f x.1 x.2.1⟩)
noncomputable def F_w_eqStringS : Fn := (D_w_eqStringS P_w_eqStringS).2
theorem E_w_eqStringS : ∀ x, (mkFn cfg [] A_w_eqStringS 26 [.tmp 4] (Tryz.f245.body.getD .skip) p_w_eqStringS r_w_eqStringS).fn x = B_w_eqStringS x.1 x.2.1 := by intro x; kernel_rfl
theorem S_w_eqStringS : Sound Tryz.prog 245 F_w_eqStringS := sm MO cfg_ok tab_nil Tryz.func245 (by kernel_rfl) (by decide) (E_w_eqStringS)
abbrev p_w_eqDisk : List PK := [.val true (.pair (.rs 9 .str) (.rs 9 .str)) false, .val true (.pair (.rs 9 .str) (.rs 9 .str)) false]
abbrev r_w_eqDisk : List RK := [.val false .bool]
noncomputable def D_w_eqDisk (f : Y_w_eqDisk) : Nat × Fn := (180, ⟨p_w_eqDisk, r_w_eqDisk, fun x => f x.1 x.2.1⟩)
noncomputable def F_w_eqDisk : Fn := (D_w_eqDisk P_w_eqDisk).2
theorem E_w_eqDisk (f_w_eqStringS : Y_w_eqStringS) : ∀ x, (mkFn cfg [D_w_eqStringS f_w_eqStringS] (lookN []) 17 [.tmp 4] (Tryz.f180.body.getD .skip) p_w_eqDisk r_w_eqDisk).fn x = B_w_eqDisk f_w_eqStringS x.1 x.2.1 := by intro x; kernel_rfl
theorem S_w_eqDisk : Sound Tryz.prog 180 F_w_eqDisk := sm MO cfg_ok (tc Tryz.call245 S_w_eqStringS tab_nil) Tryz.func180 (by kernel_rfl) (by decide) (E_w_eqDisk P_w_eqStringS)
def A_w_eqByteS : Nat → Option Jn := lookN [(58, ⟨[.t 5 false [.int .i64]], lt 11 15 [], false⟩)]
abbrev p_w_eqByteS : List PK := [.val false (.rs 5 (.int .u8)) false, .val false (.rs 5 (.int .u8)) false]
abbrev r_w_eqByteS : List RK := [.val false .bool]
noncomputable def D_w_eqByteS (f : Y_w_eqByteS) : Nat × Fn := (36, ⟨p_w_eqByteS, r_w_eqByteS, fun x => f x.1 x.2.1⟩)
noncomputable def F_w_eqByteS : Fn := (D_w_eqByteS P_w_eqByteS).2
theorem E_w_eqByteS : ∀ x, (mkFn cfg [] A_w_eqByteS 26 [.tmp 4] (Tryz.f36.body.getD .skip) p_w_eqByteS r_w_eqByteS).fn x = B_w_eqByteS x.1 x.2.1 := by intro x; kernel_rfl
theorem S_w_eqByteS : Sound Tryz.prog 36 F_w_eqByteS := sm MO cfg_ok tab_nil Tryz.func36 (by kernel_rfl) (by decide) (E_w_eqByteS)
abbrev p_w_eqUp : List PK := [.val true (.pair .str (.pair (.int .i64) (.pair (.rs 5 (.int .u8)) .bool))) false, .val true (.pair .str (.pair (.int .i64) (.pair (.rs 5 (.int .u8)) .bool))) false]
abbrev r_w_eqUp : List RK := [.val false .bool]
noncomputable def D_w_eqUp (f : Y_w_eqUp) : Nat × Fn := (246, ⟨p_w_eqUp, r_w_eqUp, fun x => f x.1 x.2.1⟩)
noncomputable def F_w_eqUp : Fn := (D_w_eqUp P_w_eqUp).2
theorem E_w_eqUp (f_w_eqByteS : Y_w_eqByteS) : ∀ x, (mkFn cfg [D_w_eqByteS f_w_eqByteS] (lookN []) 26 [.tmp 4] (Tryz.f246.body.getD .skip) p_w_eqUp r_w_eqUp).fn x = B_w_eqUp f_w_eqByteS x.1 x.2.1 := by intro x; kernel_rfl
theorem S_w_eqUp : Sound Tryz.prog 246 F_w_eqUp := sm MO cfg_ok (tc Tryz.call36 S_w_eqByteS tab_nil) Tryz.func246 (by kernel_rfl) (by decide) (E_w_eqUp P_w_eqByteS)
def A_w_eqUpS : Nat → Option Jn := lookN [(58, ⟨[.t 5 false [.int .i64]], lt 11 16 [], false⟩)]
abbrev p_w_eqUpS : List PK := [.val false (.rs 109 kUp) false, .val false (.rs 109 kUp) false]
abbrev r_w_eqUpS : List RK := [.val false .bool]
noncomputable def D_w_eqUpS (f : Y_w_eqUpS) : Nat × Fn := (181, ⟨p_w_eqUpS, r_w_eqUpS, fun x => f x.1 x.2.1⟩)
noncomputable def F_w_eqUpS : Fn := (D_w_eqUpS P_w_eqUpS).2
theorem E_w_eqUpS (f_w_eqUp : Y_w_eqUp) : ∀ x, (mkFn cfg [D_w_eqUp f_w_eqUp] A_w_eqUpS 27 [.tmp 4] (Tryz.f181.body.getD .skip) p_w_eqUpS r_w_eqUpS).fn x = B_w_eqUpS f_w_eqUp x.1 x.2.1 := by intro x; kernel_rfl
theorem S_w_eqUpS : Sound Tryz.prog 181 F_w_eqUpS := sm MO cfg_ok (tc Tryz.call246 S_w_eqUp tab_nil) Tryz.func181 (by kernel_rfl) (by decide) (E_w_eqUpS P_w_eqUp)
abbrev p_w_eqStore : List PK := [.val true (.pair (.pair (.rs 9 .str) (.rs 9 .str)) (.pair (.int .i64) (.pair (.int .i64) (.rs 109 kUp)))) false, .val true (.pair (.pair (.rs 9 .str) (.rs 9 .str)) (.pair (.int .i64) (.pair (.int .i64) (.rs 109 kUp)))) false]
abbrev r_w_eqStore : List RK := [.val false .bool]
noncomputable def D_w_eqStore (f : Y_w_eqStore) : Nat × Fn := (100, ⟨p_w_eqStore, r_w_eqStore, fun x => f x.1 x.2.1⟩)
noncomputable def F_w_eqStore : Fn := (D_w_eqStore P_w_eqStore).2
theorem E_w_eqStore (f_w_eqDisk : Y_w_eqDisk) (f_w_eqUpS : Y_w_eqUpS) : ∀ x, (mkFn cfg [D_w_eqDisk f_w_eqDisk, D_w_eqUpS f_w_eqUpS] (lookN []) 27 [.tmp 4] (Tryz.f100.body.getD .skip) p_w_eqStore r_w_eqStore).fn x = B_w_eqStore f_w_eqDisk f_w_eqUpS x.1 x.2.1 := by intro x; kernel_rfl
theorem S_w_eqStore : Sound Tryz.prog 100 F_w_eqStore := sm MO cfg_ok (tc Tryz.call180 S_w_eqDisk (tc Tryz.call181 S_w_eqUpS tab_nil)) Tryz.func100 (by kernel_rfl) (by decide) (E_w_eqStore P_w_eqDisk P_w_eqUpS)
abbrev p_w_eqResp : List PK := [.val true kResp false, .val true kResp false]
abbrev r_w_eqResp : List RK := [.val false .bool]
noncomputable def D_w_eqResp (f : Y_w_eqResp) : Nat × Fn := (247, ⟨p_w_eqResp, r_w_eqResp, fun x => f x.1 x.2.1⟩)
noncomputable def F_w_eqResp : Fn := (D_w_eqResp P_w_eqResp).2
theorem E_w_eqResp : ∀ x, (mkFn cfg [] (lookN []) 15 [.tmp 4] (Tryz.f247.body.getD .skip) p_w_eqResp r_w_eqResp).fn x = B_w_eqResp x.1 x.2.1 := by intro x; kernel_rfl
theorem S_w_eqResp : Sound Tryz.prog 247 F_w_eqResp := sm MO cfg_ok tab_nil Tryz.func247 (by kernel_rfl) (by decide) (E_w_eqResp)
abbrev p_w_eqHeld : List PK := [.val true kHeld false, .val true kHeld false]
abbrev r_w_eqHeld : List RK := [.val false .bool]
noncomputable def D_w_eqHeld (f : Y_w_eqHeld) : Nat × Fn := (182, ⟨p_w_eqHeld, r_w_eqHeld, fun x => f x.1 x.2.1⟩)
noncomputable def F_w_eqHeld : Fn := (D_w_eqHeld P_w_eqHeld).2
theorem E_w_eqHeld (f_w_eqResp : Y_w_eqResp) : ∀ x, (mkFn cfg [D_w_eqResp f_w_eqResp] (lookN []) 16 [.tmp 4] (Tryz.f182.body.getD .skip) p_w_eqHeld r_w_eqHeld).fn x = B_w_eqHeld f_w_eqResp x.1 x.2.1 := by intro x; kernel_rfl
theorem S_w_eqHeld : Sound Tryz.prog 182 F_w_eqHeld := sm MO cfg_ok (tc Tryz.call247 S_w_eqResp tab_nil) Tryz.func182 (by kernel_rfl) (by decide) (E_w_eqHeld P_w_eqResp)
def A_w_eqHeldS : Nat → Option Jn := lookN [(58, ⟨[.t 5 false [.int .i64]], lt 11 16 [], false⟩)]
abbrev p_w_eqHeldS : List PK := [.val false (.rs 130 kHeld) false, .val false (.rs 130 kHeld) false]
abbrev r_w_eqHeldS : List RK := [.val false .bool]
noncomputable def D_w_eqHeldS (f : Y_w_eqHeldS) : Nat × Fn := (101, ⟨p_w_eqHeldS, r_w_eqHeldS, fun x => f x.1 x.2.1⟩)
noncomputable def F_w_eqHeldS : Fn := (D_w_eqHeldS P_w_eqHeldS).2
theorem E_w_eqHeldS (f_w_eqHeld : Y_w_eqHeld) : ∀ x, (mkFn cfg [D_w_eqHeld f_w_eqHeld] A_w_eqHeldS 27 [.tmp 4] (Tryz.f101.body.getD .skip) p_w_eqHeldS r_w_eqHeldS).fn x = B_w_eqHeldS f_w_eqHeld x.1 x.2.1 := by intro x; kernel_rfl
theorem S_w_eqHeldS : Sound Tryz.prog 101 F_w_eqHeldS := sm MO cfg_ok (tc Tryz.call182 S_w_eqHeld tab_nil) Tryz.func101 (by kernel_rfl) (by decide) (E_w_eqHeldS P_w_eqHeld)
abbrev p_w_eqServer : List PK := [.val true (.pair (.pair (.pair (.rs 9 .str) (.rs 9 .str)) (.pair (.int .i64) (.pair (.int .i64) (.rs 109 kUp)))) (.rs 130 kHeld)) false, .val true (.pair (.pair (.pair (.rs 9 .str) (.rs 9 .str)) (.pair (.int .i64) (.pair (.int .i64) (.rs 109 kUp)))) (.rs 130 kHeld)) false]
abbrev r_w_eqServer : List RK := [.val false .bool]
noncomputable def D_w_eqServer (f : Y_w_eqServer) : Nat × Fn := (35, ⟨p_w_eqServer, r_w_eqServer, fun x => f x.1 x.2.1⟩)
noncomputable def F_w_eqServer : Fn := (D_w_eqServer P_w_eqServer).2
theorem E_w_eqServer (f_w_eqStore : Y_w_eqStore) (f_w_eqHeldS : Y_w_eqHeldS) : ∀ x, (mkFn cfg [D_w_eqStore f_w_eqStore, D_w_eqHeldS f_w_eqHeldS] (lookN []) 17 [.tmp 4] (Tryz.f35.body.getD .skip) p_w_eqServer r_w_eqServer).fn x = B_w_eqServer f_w_eqStore f_w_eqHeldS x.1 x.2.1 := by intro x; kernel_rfl
theorem S_w_eqServer : Sound Tryz.prog 35 F_w_eqServer := sm MO cfg_ok (tc Tryz.call100 S_w_eqStore (tc Tryz.call101 S_w_eqHeldS tab_nil)) Tryz.func35 (by kernel_rfl) (by decide) (E_w_eqServer P_w_eqStore P_w_eqHeldS)
def A_w_markText : Nat → Option Jn := lookN [(15, ⟨[.t 3 false [.str]], lt 6 12 [.r 12, .t 0], true⟩), (60, ⟨[.t 0 false [.int .i64], .t 3 false [.str]], lt 6 12 [.r 12], false⟩)]
abbrev p_w_markText : List PK := [.val false (.int .i64) false]
abbrev r_w_markText : List RK := [.val false .str]
noncomputable def D_w_markText (f : Y_w_markText) : Nat × Fn := (213, ⟨p_w_markText, r_w_markText, fun x => f x.1⟩)
noncomputable def F_w_markText : Fn := (D_w_markText P_w_markText).2
theorem E_w_markText : ∀ x, (mkFn cfg [] A_w_markText 20 [.tmp 2] (Tryz.f213.body.getD .skip) p_w_markText r_w_markText).fn x = B_w_markText x.1 := by intro x; kernel_rfl
theorem S_w_markText : Sound Tryz.prog 213 F_w_markText := sm MO cfg_ok tab_nil Tryz.func213 (by kernel_rfl) (by decide) (E_w_markText)
def A_w_markStringS : Nat → Option Jn := lookN [(26, ⟨[.t 0 false [.own 1000], .t 1 false [.int .i64], .t 5 false [.int .i64], .r 1000 9 .str], lt 6 13 [.x 16], false⟩)]
abbrev p_w_markStringS : List PK := [.val false (.sl 9 .str) true, .val false (.int .i64) false]
abbrev r_w_markStringS : List RK := [.val false (.int .i64)]
noncomputable def D_w_markStringS (f : Y_w_markStringS) : Nat × Fn := (248, ⟨p_w_markStringS, r_w_markStringS, fun x => f x.1 x.2.1⟩)
noncomputable def F_w_markStringS : Fn := (D_w_markStringS P_w_markStringS).2
theorem E_w_markStringS (f_w_markText : Y_w_markText) : ∀ x, (mkFn cfg [D_w_markText f_w_markText] A_w_markStringS 20 [.tmp 4] (Tryz.f248.body.getD .skip) p_w_markStringS r_w_markStringS).fn x = B_w_markStringS f_w_markText x.1 x.2.1 := by intro x; kernel_rfl
theorem S_w_markStringS : Sound Tryz.prog 248 F_w_markStringS := sm MO cfg_ok (tc Tryz.call213 S_w_markText tab_nil) Tryz.func248 (by kernel_rfl) (by decide) (E_w_markStringS P_w_markText)
abbrev p_w_markDisk : List PK := [.val true kDisk true, .val false (.int .i64) false]
abbrev r_w_markDisk : List RK := [.val false (.int .i64)]
noncomputable def D_w_markDisk (f : Y_w_markDisk) : Nat × Fn := (183, ⟨p_w_markDisk, r_w_markDisk, fun x => f x.1 x.2.1⟩)
noncomputable def F_w_markDisk : Fn := (D_w_markDisk P_w_markDisk).2
theorem E_w_markDisk (f_w_markStringS : Y_w_markStringS) : ∀ x, (mkFn cfg [D_w_markStringS f_w_markStringS] (lookN []) 14 [.tmp 4] (Tryz.f183.body.getD .skip) p_w_markDisk r_w_markDisk).fn x = B_w_markDisk f_w_markStringS x.1 x.2.1 := by intro x; kernel_rfl
theorem S_w_markDisk : Sound Tryz.prog 183 F_w_markDisk := sm MO cfg_ok (tc Tryz.call248 S_w_markStringS tab_nil) Tryz.func183 (by kernel_rfl) (by decide) (E_w_markDisk P_w_markStringS)
def A_w_markByteS : Nat → Option Jn := lookN [(26, ⟨[.t 0 false [.own 1000], .t 1 false [.int .i64], .t 5 false [.int .i64], .r 1000 5 (.int .u8)], lt 6 13 [.x 16], false⟩)]
abbrev p_w_markByteS : List PK := [.val false (.sl 5 (.int .u8)) true, .val false (.int .i64) false]
abbrev r_w_markByteS : List RK := [.val false (.int .i64)]
noncomputable def D_w_markByteS (f : Y_w_markByteS) : Nat × Fn := (38, ⟨p_w_markByteS, r_w_markByteS, fun x => f x.1 x.2.1⟩)
noncomputable def F_w_markByteS : Fn := (D_w_markByteS P_w_markByteS).2
theorem E_w_markByteS : ∀ x, (mkFn cfg [] A_w_markByteS 20 [.tmp 4] (Tryz.f38.body.getD .skip) p_w_markByteS r_w_markByteS).fn x = B_w_markByteS x.1 x.2.1 := by intro x; kernel_rfl
theorem S_w_markByteS : Sound Tryz.prog 38 F_w_markByteS := sm MO cfg_ok tab_nil Tryz.func38 (by kernel_rfl) (by decide) (E_w_markByteS)
def A_w_markUpS : Nat → Option Jn := lookN [(26, ⟨[.t 0 false [.own 1000], .t 1 false [.int .i64], .t 5 false [.int .i64], .r 1000 109 kUp], lt 6 37 [.x 16, .x 23, .x 29, .x 39], false⟩)]
abbrev p_w_markUpS : List PK := [.val false (.sl 109 kUp) true, .val false (.int .i64) false]
abbrev r_w_markUpS : List RK := [.val false (.int .i64)]
noncomputable def D_w_markUpS (f : Y_w_markUpS) : Nat × Fn := (184, ⟨p_w_markUpS, r_w_markUpS, fun x => f x.1 x.2.1⟩)
noncomputable def F_w_markUpS : Fn := (D_w_markUpS P_w_markUpS).2
theorem E_w_markUpS (f_w_markByteS : Y_w_markByteS) (f_w_markText : Y_w_markText) : ∀ x, (mkFn cfg [D_w_markByteS f_w_markByteS, D_w_markText f_w_markText] A_w_markUpS 44 [.tmp 4] (Tryz.f184.body.getD .skip) p_w_markUpS r_w_markUpS).fn x = B_w_markUpS f_w_markByteS f_w_markText x.1 x.2.1 := by intro x; kernel_rfl
theorem S_w_markUpS : Sound Tryz.prog 184 F_w_markUpS := sm MO cfg_ok (tc Tryz.call38 S_w_markByteS (tc Tryz.call213 S_w_markText tab_nil)) Tryz.func184 (by kernel_rfl) (by decide) (E_w_markUpS P_w_markByteS P_w_markText)
abbrev p_w_markStore : List PK := [.val true kStore true, .val false (.int .i64) false]
abbrev r_w_markStore : List RK := [.val false (.int .i64)]
noncomputable def D_w_markStore (f : Y_w_markStore) : Nat × Fn := (102, ⟨p_w_markStore, r_w_markStore, fun x => f x.1 x.2.1⟩)
noncomputable def F_w_markStore : Fn := (D_w_markStore P_w_markStore).2
theorem E_w_markStore (f_w_markDisk : Y_w_markDisk) (f_w_markUpS : Y_w_markUpS) : ∀ x, (mkFn cfg [D_w_markDisk f_w_markDisk, D_w_markUpS f_w_markUpS] (lookN []) 14 [.tmp 4] (Tryz.f102.body.getD .skip) p_w_markStore r_w_markStore).fn x = B_w_markStore f_w_markDisk f_w_markUpS x.1 x.2.1 := by intro x; kernel_rfl
theorem S_w_markStore : Sound Tryz.prog 102 F_w_markStore := sm MO cfg_ok (tc Tryz.call183 S_w_markDisk (tc Tryz.call184 S_w_markUpS tab_nil)) Tryz.func102 (by kernel_rfl) (by decide) (E_w_markStore P_w_markDisk P_w_markUpS)
def A_w_markHeldS : Nat → Option Jn := lookN [(26, ⟨[.t 0 false [.own 1000], .t 1 false [.int .i64], .t 5 false [.int .i64], .r 1000 130 kHeld], lt 6 29 [.x 15, .x 22, .x 30], false⟩)]
abbrev p_w_markHeldS : List PK := [.val false (.sl 130 kHeld) true, .val false (.int .i64) false]
abbrev r_w_markHeldS : List RK := [.val false (.int .i64)]
noncomputable def D_w_markHeldS (f : Y_w_markHeldS) : Nat × Fn := (103, ⟨p_w_markHeldS, r_w_markHeldS, fun x => f x.1 x.2.1⟩)
noncomputable def F_w_markHeldS : Fn := (D_w_markHeldS P_w_markHeldS).2
theorem E_w_markHeldS : ∀ x, (mkFn cfg [] A_w_markHeldS 36 [.tmp 4] (Tryz.f103.body.getD .skip) p_w_markHeldS r_w_markHeldS).fn x = B_w_markHeldS x.1 x.2.1 := by intro x; kernel_rfl
theorem S_w_markHeldS : Sound Tryz.prog 103 F_w_markHeldS := sm MO cfg_ok tab_nil Tryz.func103 (by kernel_rfl) (by decide) (E_w_markHeldS)
abbrev p_w_markServer : List PK := [.val true kServer true, .val false (.int .i64) false]
abbrev r_w_markServer : List RK := [.val false (.int .i64)]
noncomputable def D_w_markServer (f : Y_w_markServer) : Nat × Fn := (37, ⟨p_w_markServer, r_w_markServer, fun x => f x.1 x.2.1⟩)
noncomputable def F_w_markServer : Fn := (D_w_markServer P_w_markServer).2
theorem E_w_markServer (f_w_markStore : Y_w_markStore) (f_w_markHeldS : Y_w_markHeldS) : ∀ x, (mkFn cfg [D_w_markStore f_w_markStore, D_w_markHeldS f_w_markHeldS] (lookN []) 14 [.tmp 4] (Tryz.f37.body.getD .skip) p_w_markServer r_w_markServer).fn x = B_w_markServer f_w_markStore f_w_markHeldS x.1 x.2.1 := by intro x; kernel_rfl
theorem S_w_markServer : Sound Tryz.prog 37 F_w_markServer := sm MO cfg_ok (tc Tryz.call102 S_w_markStore (tc Tryz.call103 S_w_markHeldS tab_nil)) Tryz.func37 (by kernel_rfl) (by decide) (E_w_markServer P_w_markStore P_w_markHeldS)
def A_w_heldStringS : Nat → Option Jn := lookN [(26, ⟨[.t 1 false [.int .i64], .t 5 false [.int .i64]], lt 6 15 [], false⟩)]
abbrev p_w_heldStringS : List PK := [.val false (.rs 9 .str) false, .val false (.int .i64) false]
abbrev r_w_heldStringS : List RK := [.val false (.int .i64)]
noncomputable def D_w_heldStringS (f : Y_w_heldStringS) : Nat × Fn := (249, ⟨p_w_heldStringS, r_w_heldStringS, fun x => f x.1 x.2.1⟩)
noncomputable def F_w_heldStringS : Fn := (D_w_heldStringS P_w_heldStringS).2
theorem E_w_heldStringS (f_w_markText : Y_w_markText) : ∀ x, (mkFn cfg [D_w_markText f_w_markText] A_w_heldStringS 22 [.tmp 4] (Tryz.f249.body.getD .skip) p_w_heldStringS r_w_heldStringS).fn x = B_w_heldStringS f_w_markText x.1 x.2.1 := by intro x; kernel_rfl
theorem S_w_heldStringS : Sound Tryz.prog 249 F_w_heldStringS := sm MO cfg_ok (tc Tryz.call213 S_w_markText tab_nil) Tryz.func249 (by kernel_rfl) (by decide) (E_w_heldStringS P_w_markText)
abbrev p_w_heldDisk : List PK := [.val true (.pair (.rs 9 .str) (.rs 9 .str)) false, .val false (.int .i64) false]
abbrev r_w_heldDisk : List RK := [.val false (.int .i64)]
noncomputable def D_w_heldDisk (f : Y_w_heldDisk) : Nat × Fn := (185, ⟨p_w_heldDisk, r_w_heldDisk, fun x => f x.1 x.2.1⟩)
noncomputable def F_w_heldDisk : Fn := (D_w_heldDisk P_w_heldDisk).2
theorem E_w_heldDisk (f_w_heldStringS : Y_w_heldStringS) : ∀ x, (mkFn cfg [D_w_heldStringS f_w_heldStringS] (lookN []) 18 [.tmp 4] (Tryz.f185.body.getD .skip) p_w_heldDisk r_w_heldDisk).fn x = B_w_heldDisk f_w_heldStringS x.1 x.2.1 := by intro x; kernel_rfl
theorem S_w_heldDisk : Sound Tryz.prog 185 F_w_heldDisk := sm MO cfg_ok (tc Tryz.call249 S_w_heldStringS tab_nil) Tryz.func185 (by kernel_rfl) (by decide) (E_w_heldDisk P_w_heldStringS)
def A_w_heldByteS : Nat → Option Jn := lookN [(26, ⟨[.t 1 false [.int .i64], .t 5 false [.int .i64]], lt 6 15 [], false⟩)]
abbrev p_w_heldByteS : List PK := [.val false (.rs 5 (.int .u8)) false, .val false (.int .i64) false]
abbrev r_w_heldByteS : List RK := [.val false (.int .i64)]
noncomputable def D_w_heldByteS (f : Y_w_heldByteS) : Nat × Fn := (214, ⟨p_w_heldByteS, r_w_heldByteS, fun x => f x.1 x.2.1⟩)
noncomputable def F_w_heldByteS : Fn := (D_w_heldByteS P_w_heldByteS).2
theorem E_w_heldByteS : ∀ x, (mkFn cfg [] A_w_heldByteS 22 [.tmp 4] (Tryz.f214.body.getD .skip) p_w_heldByteS r_w_heldByteS).fn x = B_w_heldByteS x.1 x.2.1 := by intro x; kernel_rfl
theorem S_w_heldByteS : Sound Tryz.prog 214 F_w_heldByteS := sm MO cfg_ok tab_nil Tryz.func214 (by kernel_rfl) (by decide) (E_w_heldByteS)
def A_w_heldUpS : Nat → Option Jn := lookN [(26, ⟨[.t 1 false [.int .i64], .t 5 false [.int .i64]], lt 6 45 [], false⟩)]
abbrev p_w_heldUpS : List PK := [.val false (.rs 109 kUp) false, .val false (.int .i64) false]
abbrev r_w_heldUpS : List RK := [.val false (.int .i64)]
noncomputable def D_w_heldUpS (f : Y_w_heldUpS) : Nat × Fn := (186, ⟨p_w_heldUpS, r_w_heldUpS, fun x => f x.1 x.2.1⟩)
noncomputable def F_w_heldUpS : Fn := (D_w_heldUpS P_w_heldUpS).2
theorem E_w_heldUpS (f_w_markText : Y_w_markText) (f_w_heldByteS : Y_w_heldByteS) : ∀ x, (mkFn cfg [D_w_markText f_w_markText, D_w_heldByteS f_w_heldByteS] A_w_heldUpS 52 [.tmp 4] (Tryz.f186.body.getD .skip) p_w_heldUpS r_w_heldUpS).fn x = B_w_heldUpS f_w_markText f_w_heldByteS x.1 x.2.1 := by intro x; kernel_rfl
theorem S_w_heldUpS : Sound Tryz.prog 186 F_w_heldUpS := sm MO cfg_ok (tc Tryz.call213 S_w_markText (tc Tryz.call214 S_w_heldByteS tab_nil)) Tryz.func186 (by kernel_rfl) (by decide) (E_w_heldUpS P_w_markText P_w_heldByteS)
abbrev p_w_heldStore : List PK := [.val true (.pair (.pair (.rs 9 .str) (.rs 9 .str)) (.pair (.int .i64) (.pair (.int .i64) (.rs 109 kUp)))) false, .val false (.int .i64) false]
abbrev r_w_heldStore : List RK := [.val false (.int .i64)]
noncomputable def D_w_heldStore (f : Y_w_heldStore) : Nat × Fn := (104, ⟨p_w_heldStore, r_w_heldStore, fun x => f x.1 x.2.1⟩)
noncomputable def F_w_heldStore : Fn := (D_w_heldStore P_w_heldStore).2
theorem E_w_heldStore (f_w_heldDisk : Y_w_heldDisk) (f_w_heldUpS : Y_w_heldUpS) : ∀ x, (mkFn cfg [D_w_heldDisk f_w_heldDisk, D_w_heldUpS f_w_heldUpS] (lookN []) 18 [.tmp 4] (Tryz.f104.body.getD .skip) p_w_heldStore r_w_heldStore).fn x = B_w_heldStore f_w_heldDisk f_w_heldUpS x.1 x.2.1 := by intro x; kernel_rfl
theorem S_w_heldStore : Sound Tryz.prog 104 F_w_heldStore := sm MO cfg_ok (tc Tryz.call185 S_w_heldDisk (tc Tryz.call186 S_w_heldUpS tab_nil)) Tryz.func104 (by kernel_rfl) (by decide) (E_w_heldStore P_w_heldDisk P_w_heldUpS)
def A_w_heldHeldS : Nat → Option Jn := lookN [(26, ⟨[.t 1 false [.int .i64], .t 5 false [.int .i64]], lt 6 35 [], false⟩)]
abbrev p_w_heldHeldS : List PK := [.val false (.rs 130 kHeld) false, .val false (.int .i64) false]
abbrev r_w_heldHeldS : List RK := [.val false (.int .i64)]
noncomputable def D_w_heldHeldS (f : Y_w_heldHeldS) : Nat × Fn := (105, ⟨p_w_heldHeldS, r_w_heldHeldS, fun x => f x.1 x.2.1⟩)
noncomputable def F_w_heldHeldS : Fn := (D_w_heldHeldS P_w_heldHeldS).2
theorem E_w_heldHeldS : ∀ x, (mkFn cfg [] A_w_heldHeldS 42 [.tmp 4] (Tryz.f105.body.getD .skip) p_w_heldHeldS r_w_heldHeldS).fn x = B_w_heldHeldS x.1 x.2.1 := by intro x; kernel_rfl
theorem S_w_heldHeldS : Sound Tryz.prog 105 F_w_heldHeldS := sm MO cfg_ok tab_nil Tryz.func105 (by kernel_rfl) (by decide) (E_w_heldHeldS)
abbrev p_w_heldServer : List PK := [.val true (.pair (.pair (.pair (.rs 9 .str) (.rs 9 .str)) (.pair (.int .i64) (.pair (.int .i64) (.rs 109 kUp)))) (.rs 130 kHeld)) false, .val false (.int .i64) false]
abbrev r_w_heldServer : List RK := [.val false (.int .i64)]
noncomputable def D_w_heldServer (f : Y_w_heldServer) : Nat × Fn := (39, ⟨p_w_heldServer, r_w_heldServer, fun x => f x.1 x.2.1⟩)
noncomputable def F_w_heldServer : Fn := (D_w_heldServer P_w_heldServer).2
theorem E_w_heldServer (f_w_heldStore : Y_w_heldStore) (f_w_heldHeldS : Y_w_heldHeldS) : ∀ x, (mkFn cfg [D_w_heldStore f_w_heldStore, D_w_heldHeldS f_w_heldHeldS] (lookN []) 18 [.tmp 4] (Tryz.f39.body.getD .skip) p_w_heldServer r_w_heldServer).fn x = B_w_heldServer f_w_heldStore f_w_heldHeldS x.1 x.2.1 := by intro x; kernel_rfl
theorem S_w_heldServer : Sound Tryz.prog 39 F_w_heldServer := sm MO cfg_ok (tc Tryz.call104 S_w_heldStore (tc Tryz.call105 S_w_heldHeldS tab_nil)) Tryz.func39 (by kernel_rfl) (by decide) (E_w_heldServer P_w_heldStore P_w_heldHeldS)
def A_s_Serve_r99_0 : Nat → Option Jn := lookN [(7, ⟨[], lt 15 14 [], false⟩)]
abbrev p_s_Serve_r99_0 : List PK := [.val true (.pair (.pair (.pair (.rs 9 .str) (.rs 9 .str)) (.pair (.int .i64) (.pair (.int .i64) (.rs 109 kUp)))) (.rs 130 kHeld)) false, .val false (.int .i64) false, .val true kReq false, .val false (.rs 5 (.int .u8)) false]
abbrev r_s_Serve_r99_0 : List RK := [.val true (.pair (.pair (.pair (.rs 9 .str) (.rs 9 .str)) (.pair (.int .i64) (.pair (.int .i64) (.rs 109 kUp)))) (.sl 130 kHeld)), .val false .bool]
noncomputable def D_s_Serve_r99_0 (f : Y_s_Serve_r99_0) : Nat × Fn := (26, ⟨p_s_Serve_r99_0, r_s_Serve_r99_0, fun x => f x.1 x.2.1 x.2.2.1 x.2.2.2.1⟩)
noncomputable def F_s_Serve_r99_0 : Fn := (D_s_Serve_r99_0 P_s_Serve_r99_0).2
theorem E_s_Serve_r99_0 (f_s_l15Copy : Y_s_l15Copy) (f_s_ServerOk : Y_s_ServerOk) (f_s_ReqOk : Y_s_ReqOk) (f_s_l15Does_r99_0 : Y_s_l15Does_r99_0) : ∀ x, (mkFn cfg [D_s_l15Copy f_s_l15Copy, D_s_ServerOk f_s_ServerOk, D_s_ReqOk f_s_ReqOk, D_s_l15Does_r99_0 f_s_l15Does_r99_0] A_s_Serve_r99_0 49 [.cell 8 32, .tmp 9] (Tryz.f26.body.getD .skip) p_s_Serve_r99_0 r_s_Serve_r99_0).fn x = B_s_Serve_r99_0 f_s_l15Copy f_s_ServerOk f_s_ReqOk f_s_l15Does_r99_0 x.1 x.2.1 x.2.2.1 x.2.2.2.1 := by intro x; kernel_rfl
theorem S_s_Serve_r99_0 : Sound Tryz.prog 26 F_s_Serve_r99_0 := sm MO cfg_ok (tc Tryz.call89 S_s_l15Copy (tc Tryz.call90 S_s_ServerOk (tc Tryz.call91 S_s_ReqOk (tc Tryz.call92 S_s_l15Does_r99_0 tab_nil)))) Tryz.func26 (by kernel_rfl) (by decide) (E_s_Serve_r99_0 P_s_l15Copy P_s_ServerOk P_s_ReqOk P_s_l15Does_r99_0)
def A_w_FnExactServe : Nat → Option Jn := lookN [(4095, ⟨[], lt 58 9 [], false⟩), (262143, ⟨[], lt 83 13 [], false⟩), (67108863, ⟨[], lt 118 9 [], false⟩)]
abbrev p_w_FnExactServe : List PK := [.val true (.pair (.pair (.pair (.rs 9 .str) (.rs 9 .str)) (.pair (.int .i64) (.pair (.int .i64) (.rs 248 kUp)))) (.rs 203 kHeld)) false, .val false (.int .i64) false, .val true kReq false, .val false (.rs 5 (.int .u8)) false]
abbrev r_w_FnExactServe : List RK := [.val false .bool]
noncomputable def D_w_FnExactServe (f : Y_w_FnExactServe) : Nat × Fn := (5, ⟨p_w_FnExactServe, r_w_FnExactServe, fun x => f x.1 x.2.1 x.2.2.1 x.2.2.2.1⟩)
noncomputable def F_w_FnExactServe : Fn := (D_w_FnExactServe P_w_FnExactServe).2
theorem E_w_FnExactServe (f_i_Serve : Y_i_Serve) (f_s_Serve_r99_0 : Y_s_Serve_r99_0) (f_w_szServer : Y_w_szServer) (f_w_szReq : Y_w_szReq) (f_w_toServer : Y_w_toServer) (f_w_toReq : Y_w_toReq) (f_w_toByteS : Y_w_toByteS) (f_w_eqServer : Y_w_eqServer) (f_w_eqByteS : Y_w_eqByteS) (f_w_markServer : Y_w_markServer) (f_w_markByteS : Y_w_markByteS) (f_w_heldServer : Y_w_heldServer) : ∀ x, (mkFn cfg [D_i_Serve f_i_Serve, D_s_Serve_r99_0 f_s_Serve_r99_0, D_w_szServer f_w_szServer, D_w_szReq f_w_szReq, D_w_toServer f_w_toServer, D_w_toReq f_w_toReq, D_w_toByteS f_w_toByteS, D_w_eqServer f_w_eqServer, D_w_eqByteS f_w_eqByteS, D_w_markServer f_w_markServer, D_w_markByteS f_w_markByteS, D_w_heldServer f_w_heldServer] A_w_FnExactServe 135 [.tmp 8] (Tryz.f5.body.getD .skip) p_w_FnExactServe r_w_FnExactServe).fn x = B_w_FnExactServe f_i_Serve f_s_Serve_r99_0 f_w_szServer f_w_szReq f_w_toServer f_w_toReq f_w_toByteS f_w_eqServer f_w_eqByteS f_w_markServer f_w_markByteS f_w_heldServer x.1 x.2.1 x.2.2.1 x.2.2.2.1 := by intro x; kernel_rfl
theorem S_w_FnExactServe : Sound Tryz.prog 5 F_w_FnExactServe := sm MO cfg_ok (tc Tryz.call25 S_i_Serve (tc Tryz.call26 S_s_Serve_r99_0 (tc Tryz.call30 S_w_szServer (tc Tryz.call31 S_w_szReq (tc Tryz.call32 S_w_toServer (tc Tryz.call33 S_w_toReq (tc Tryz.call34 S_w_toByteS (tc Tryz.call35 S_w_eqServer (tc Tryz.call36 S_w_eqByteS (tc Tryz.call37 S_w_markServer (tc Tryz.call38 S_w_markByteS (tc Tryz.call39 S_w_heldServer tab_nil)))))))))))) Tryz.func5 (by kernel_rfl) (by decide) (E_w_FnExactServe P_i_Serve P_s_Serve_r99_0 P_w_szServer P_w_szReq P_w_toServer P_w_toReq P_w_toByteS P_w_eqServer P_w_eqByteS P_w_markServer P_w_markByteS P_w_heldServer)
end Go.Proofs.YtpdcljonclhhpaaGreat.Ev
