/- Each function of the program does what its plain function says. -/
import Derived.Test.YtehbegmomfcmhaaG1
import Derived.Test.YtehbegmomfcmhaaFind
set_option linter.unusedVariables false
set_option maxRecDepth 100000
namespace Go.Proofs.Ytehbegmomfcmhaa.Ev
def A_i_Store_makeUp : Nat → Option Jn := lookN [(3, ⟨[], lt 9 8 [], false⟩)]
abbrev p_i_Store_makeUp : List PK := [.ptr kStore, .val false .str false, .val false (.int .i64) false]
abbrev r_i_Store_makeUp : List RK := [.val false (.int .i64)]
noncomputable def D_i_Store_makeUp (f : Y_i_Store_makeUp) : Nat × Fn := (65, ⟨p_i_Store_makeUp, r_i_Store_makeUp, fun x => f x.1 x.2.1 x.2.2.1⟩)
noncomputable def F_i_Store_makeUp : Fn := (D_i_Store_makeUp P_i_Store_makeUp).2
theorem E_i_Store_makeUp (f_i_inRange : Y_i_inRange) (f_i_idOk : Y_i_idOk) (f_i_Store_left : Y_i_Store_left) (f_i_Store_write_r97_0 : Y_i_Store_write_r97_0) (f_i_Store_find : Y_i_Store_find) : ∀ x, (mkFn (cfg.withPk 120 ⟨kUp, 4, f_i_Store_find⟩) [D_i_inRange f_i_inRange, D_i_idOk f_i_idOk, D_i_Store_left f_i_Store_left, D_i_Store_write_r97_0 f_i_Store_write_r97_0] A_i_Store_makeUp 39 [.tmp 6] (Try.f65.body.getD .skip) p_i_Store_makeUp r_i_Store_makeUp).fn x = B_i_Store_makeUp f_i_inRange f_i_idOk f_i_Store_left f_i_Store_write_r97_0 f_i_Store_find x.1 x.2.1 x.2.2.1 := by intro x; kernel_rfl
theorem S_i_Store_makeUp : Sound Try.prog 65 F_i_Store_makeUp := sm MO (withPk_ok cfg_ok (fun args w => Try.call120 args w) S_i_Store_find) (tc Try.call110 S_i_inRange (tc Try.call119 S_i_idOk (tc Try.call121 S_i_Store_left (tc Try.call122 S_i_Store_write_r97_0 tab_nil)))) Try.func65 (by kernel_rfl) (by decide) (E_i_Store_makeUp P_i_inRange P_i_idOk P_i_Store_left P_i_Store_write_r97_0 P_i_Store_find)
abbrev p_i_MakeUp : List PK := [.val true (.pair (.pair (.rs 9 .str) (.rs 9 .str)) (.pair (.int .i64) (.pair (.int .i64) (.rs 56 kUp)))) false, .val false .str false, .val false (.int .i64) false]
abbrev r_i_MakeUp : List RK := [.val true kStore, .val false (.int .i64)]
noncomputable def D_i_MakeUp (f : Y_i_MakeUp) : Nat × Fn := (19, ⟨p_i_MakeUp, r_i_MakeUp, fun x => f x.1 x.2.1 x.2.2.1⟩)
noncomputable def F_i_MakeUp : Fn := (D_i_MakeUp P_i_MakeUp).2
theorem E_i_MakeUp (f_i_StoreOk : Y_i_StoreOk) (f_i_copyStore : Y_i_copyStore) (f_i_Store_makeUp : Y_i_Store_makeUp) : ∀ x, (mkFn cfg [D_i_StoreOk f_i_StoreOk, D_i_copyStore f_i_copyStore, D_i_Store_makeUp f_i_Store_makeUp] (lookN []) 21 [.cell 6 36, .tmp 7] (Try.f19.body.getD .skip) p_i_MakeUp r_i_MakeUp).fn x = B_i_MakeUp f_i_StoreOk f_i_copyStore f_i_Store_makeUp x.1 x.2.1 x.2.2.1 := by intro x; kernel_rfl
theorem S_i_MakeUp : Sound Try.prog 19 F_i_MakeUp := sm MO cfg_ok (tc Try.call28 S_i_StoreOk (tc Try.call64 S_i_copyStore (tc Try.call65 S_i_Store_makeUp tab_nil))) Try.func19 (by kernel_rfl) (by decide) (E_i_MakeUp P_i_StoreOk P_i_copyStore P_i_Store_makeUp)
abbrev p_w_big : List PK := [.val false (.rs 5 (.int .u8)) false]
abbrev r_w_big : List RK := [.val false .bool]
noncomputable def D_w_big (f : Y_w_big) : Nat × Fn := (23, ⟨p_w_big, r_w_big, fun x => f x.1⟩)
noncomputable def F_w_big : Fn := (D_w_big P_w_big).2
theorem E_w_big : ∀ x, (mkFn cfg [] (lookN []) 6 [.tmp 2] (Try.f23.body.getD .skip) p_w_big r_w_big).fn x = B_w_big x.1 := by intro x; kernel_rfl
theorem S_w_big : Sound Try.prog 23 F_w_big := sm MO cfg_ok tab_nil Try.func23 (by kernel_rfl) (by decide) (E_w_big)
def A_i_UpAt : Nat → Option Jn := lookN [(3, ⟨[], lt 7 12 [.b 7, .t 21], false⟩), (26, ⟨[.t 11 false [.int .i64]], lt 12 7 [.b 7, .t 7, .t 21], false⟩)]
abbrev p_i_UpAt : List PK := [.val true (.pair (.pair (.rs 9 .str) (.rs 9 .str)) (.pair (.int .i64) (.pair (.int .i64) (.rs 56 kUp)))) false, .val false .str false]
abbrev r_i_UpAt : List RK := [.val true kUp, .val false .bool]
noncomputable def D_i_UpAt (f : Y_i_UpAt) : Nat × Fn := (26, ⟨p_i_UpAt, r_i_UpAt, fun x => f x.1 x.2.1⟩)
noncomputable def F_i_UpAt : Fn := (D_i_UpAt P_i_UpAt).2
theorem E_i_UpAt (f_i_copyUp : Y_i_copyUp) : ∀ x, (mkFn cfg [D_i_copyUp f_i_copyUp] A_i_UpAt 23 [.cell 4 56, .tmp 5] (Try.f26.body.getD .skip) p_i_UpAt r_i_UpAt).fn x = B_i_UpAt f_i_copyUp x.1 x.2.1 := by intro x; kernel_rfl
theorem S_i_UpAt : Sound Try.prog 26 F_i_UpAt := sm MO cfg_ok (tc Try.call81 S_i_copyUp tab_nil) Try.func26 (by kernel_rfl) (by decide) (E_i_UpAt P_i_copyUp)
abbrev p_i_TopEpoch : List PK := [.val true (.pair (.rs 9 .str) (.rs 9 .str)) false]
abbrev r_i_TopEpoch : List RK := [.val false (.int .i64)]
noncomputable def D_i_TopEpoch (f : Y_i_TopEpoch) : Nat × Fn := (36, ⟨p_i_TopEpoch, r_i_TopEpoch, fun x => f x.1⟩)
noncomputable def F_i_TopEpoch : Fn := (D_i_TopEpoch P_i_TopEpoch).2
theorem E_i_TopEpoch (f_i_topFrom : Y_i_topFrom) : ∀ x, (mkFn cfg [D_i_topFrom f_i_topFrom] (lookN []) 6 [.tmp 2] (Try.f36.body.getD .skip) p_i_TopEpoch r_i_TopEpoch).fn x = B_i_TopEpoch f_i_topFrom x.1 := by intro x; kernel_rfl
theorem S_i_TopEpoch : Sound Try.prog 36 F_i_TopEpoch := sm MO cfg_ok (tc Try.call88 S_i_topFrom tab_nil) Try.func36 (by kernel_rfl) (by decide) (E_i_TopEpoch P_i_topFrom)
def A_i_OpenStore : Nat → Option Jn := lookN [(63, ⟨[], lt 22 6 [], false⟩)]
abbrev p_i_OpenStore : List PK := [.val true (.pair (.rs 9 .str) (.rs 9 .str)) false]
abbrev r_i_OpenStore : List RK := [.val true kStore, .val false .bool]
noncomputable def D_i_OpenStore (f : Y_i_OpenStore) : Nat × Fn := (32, ⟨p_i_OpenStore, r_i_OpenStore, fun x => f x.1⟩)
noncomputable def F_i_OpenStore : Fn := (D_i_OpenStore P_i_OpenStore).2
theorem E_i_OpenStore (f_i_TopEpoch : Y_i_TopEpoch) (f_i_ScanRecs : Y_i_ScanRecs) (f_i_DiskOk : Y_i_DiskOk) (f_i_FoldRecs : Y_i_FoldRecs) (f_i_copyDisk : Y_i_copyDisk) : ∀ x, (mkFn cfg [D_i_TopEpoch f_i_TopEpoch, D_i_ScanRecs f_i_ScanRecs, D_i_DiskOk f_i_DiskOk, D_i_FoldRecs f_i_FoldRecs, D_i_copyDisk f_i_copyDisk] A_i_OpenStore 36 [.cell 2 36, .tmp 3] (Try.f32.body.getD .skip) p_i_OpenStore r_i_OpenStore).fn x = B_i_OpenStore f_i_TopEpoch f_i_ScanRecs f_i_DiskOk f_i_FoldRecs f_i_copyDisk x.1 := by intro x; kernel_rfl
theorem S_i_OpenStore : Sound Try.prog 32 F_i_OpenStore := sm MO cfg_ok (tc Try.call36 S_i_TopEpoch (tc Try.call37 S_i_ScanRecs (tc Try.call84 S_i_DiskOk (tc Try.call85 S_i_FoldRecs (tc Try.call96 S_i_copyDisk tab_nil))))) Try.func32 (by kernel_rfl) (by decide) (E_i_OpenStore P_i_TopEpoch P_i_ScanRecs P_i_DiskOk P_i_FoldRecs P_i_copyDisk)
def A_i_FallDisk : Nat → Option Jn := lookN [(122, ⟨[.t 16 false [.int .i64], .b 5 [.own 36864, .own 36865], .r 36864 9 .str, .r 36865 9 .str], lt 17 31 [.t 6, .x 35, .x 37, .x 44, .x 46], false⟩), (7833, ⟨[.t 28 false [.bool]], lt 19 9 [], true⟩)]
abbrev p_i_FallDisk : List PK := [.val true (.pair (.rs 9 .str) (.rs 9 .str)) false, .val false (.rs 4 .bool) false]
abbrev r_i_FallDisk : List RK := [.val true kDisk]
noncomputable def D_i_FallDisk (f : Y_i_FallDisk) : Nat × Fn := (34, ⟨p_i_FallDisk, r_i_FallDisk, fun x => f x.1 x.2.1⟩)
noncomputable def F_i_FallDisk : Fn := (D_i_FallDisk P_i_FallDisk).2
theorem E_i_FallDisk (f_i_DiskOk : Y_i_DiskOk) (f_i_copyDisk : Y_i_copyDisk) : ∀ x, (mkFn cfg [D_i_DiskOk f_i_DiskOk, D_i_copyDisk f_i_copyDisk] A_i_FallDisk 49 [.cell 4 33] (Try.f34.body.getD .skip) p_i_FallDisk r_i_FallDisk).fn x = B_i_FallDisk f_i_DiskOk f_i_copyDisk x.1 x.2.1 := by intro x; kernel_rfl
theorem S_i_FallDisk : Sound Try.prog 34 F_i_FallDisk := sm MO cfg_ok (tc Try.call84 S_i_DiskOk (tc Try.call96 S_i_copyDisk tab_nil)) Try.func34 (by kernel_rfl) (by decide) (E_i_FallDisk P_i_DiskOk P_i_copyDisk)
abbrev p_i_FlushDisk : List PK := [.val true (.pair (.rs 9 .str) (.rs 9 .str)) false]
abbrev r_i_FlushDisk : List RK := [.val true kDisk]
noncomputable def D_i_FlushDisk (f : Y_i_FlushDisk) : Nat × Fn := (102, ⟨p_i_FlushDisk, r_i_FlushDisk, fun x => f x.1⟩)
noncomputable def F_i_FlushDisk : Fn := (D_i_FlushDisk P_i_FlushDisk).2
theorem E_i_FlushDisk (f_slices_Clone_string_string : Y_slices_Clone_string_string) : ∀ x, (mkFn cfg [D_slices_Clone_string_string f_slices_Clone_string_string] (lookN []) 10 [.cell 2 33] (Try.f102.body.getD .skip) p_i_FlushDisk r_i_FlushDisk).fn x = B_i_FlushDisk f_slices_Clone_string_string x.1 := by intro x; kernel_rfl
theorem S_i_FlushDisk : Sound Try.prog 102 F_i_FlushDisk := sm MO cfg_ok (tc Try.call139 S_slices_Clone_string_string tab_nil) Try.func102 (by kernel_rfl) (by decide) (E_i_FlushDisk P_slices_Clone_string_string)
abbrev p_i_SyncStore : List PK := [.val true (.pair (.pair (.rs 9 .str) (.rs 9 .str)) (.pair (.int .i64) (.pair (.int .i64) (.rs 56 kUp)))) false]
abbrev r_i_SyncStore : List RK := [.val true kStore]
noncomputable def D_i_SyncStore (f : Y_i_SyncStore) : Nat × Fn := (35, ⟨p_i_SyncStore, r_i_SyncStore, fun x => f x.1⟩)
noncomputable def F_i_SyncStore : Fn := (D_i_SyncStore P_i_SyncStore).2
theorem E_i_SyncStore (f_i_StoreOk : Y_i_StoreOk) (f_i_copyStore : Y_i_copyStore) (f_i_FlushDisk : Y_i_FlushDisk) : ∀ x, (mkFn cfg [D_i_StoreOk f_i_StoreOk, D_i_copyStore f_i_copyStore, D_i_FlushDisk f_i_FlushDisk] (lookN []) 13 [.cell 2 36] (Try.f35.body.getD .skip) p_i_SyncStore r_i_SyncStore).fn x = B_i_SyncStore f_i_StoreOk f_i_copyStore f_i_FlushDisk x.1 := by intro x; kernel_rfl
theorem S_i_SyncStore : Sound Try.prog 35 F_i_SyncStore := sm MO cfg_ok (tc Try.call28 S_i_StoreOk (tc Try.call64 S_i_copyStore (tc Try.call102 S_i_FlushDisk tab_nil))) Try.func35 (by kernel_rfl) (by decide) (E_i_SyncStore P_i_StoreOk P_i_copyStore P_i_FlushDisk)
def A_i_Store_putUp : Nat → Option Jn := lookN [(3, ⟨[], lt 12 9 [], false⟩), (15, ⟨[.b 1000 [.own 215040, .own 215041, .int .i64, .int .i64, .own 215044], .r 215040 9 .str, .r 215041 9 .str, .r 215044 56 kUp], lt 27 31 [.r 1000, .r 1001, .r 1004], false⟩), (243, ⟨[.t 30 false [.bool]], lt 31 18 [], true⟩), (250, ⟨[.b 6 [.int .i64], .b 1000 [.own 100003000, .own 100003001, .int .i64, .int .i64, .own 100003002], .r 100003000 9 .str, .r 100003001 9 .str, .r 100003002 56 kUp], lt 60 10 [.r 215040, .r 215041, .r 215044, .r 272384, .r 272385, .r 272388, .t 11], false⟩)]
abbrev p_i_Store_putUp : List PK := [.ptr kStore, .val false .str false, .val false (.int .i64) false, .val false (.rs 5 (.int .u8)) false]
abbrev r_i_Store_putUp : List RK := [.val false (.int .i64)]
noncomputable def D_i_Store_putUp (f : Y_i_Store_putUp) : Nat × Fn := (106, ⟨p_i_Store_putUp, r_i_Store_putUp, fun x => f x.1 x.2.1 x.2.2.1 x.2.2.2.1⟩)
noncomputable def F_i_Store_putUp : Fn := (D_i_Store_putUp P_i_Store_putUp).2
theorem E_i_Store_putUp (f_i_inRange : Y_i_inRange) (f_i_idOk : Y_i_idOk) (f_i_Store_left : Y_i_Store_left) (f_i_Store_write_r97_0 : Y_i_Store_write_r97_0) (f_i_Store_find : Y_i_Store_find) : ∀ x, (mkFn (((cfg.withPk 120 ⟨kUp, 4, f_i_Store_find⟩).withCk 144 162).withPt [95]) [D_i_inRange f_i_inRange, D_i_idOk f_i_idOk, D_i_Store_left f_i_Store_left, D_i_Store_write_r97_0 f_i_Store_write_r97_0] A_i_Store_putUp 70 [.tmp 8] (Try.f106.body.getD .skip) p_i_Store_putUp r_i_Store_putUp).fn x = B_i_Store_putUp f_i_inRange f_i_idOk f_i_Store_left f_i_Store_write_r97_0 f_i_Store_find x.1 x.2.1 x.2.2.1 x.2.2.2.1 := by intro x; kernel_rfl
theorem S_i_Store_putUp : Sound Try.prog 106 F_i_Store_putUp := sm MO (withPt_ok (l := [95]) (withCk_ok (withPk_ok cfg_ok (fun args w => Try.call120 args w) S_i_Store_find) (fun args w => Try.call144 args w) S_Chunk) ⟨⟨_, Try.underlying95, rfl⟩, trivial⟩) (tc Try.call110 S_i_inRange (tc Try.call119 S_i_idOk (tc Try.call121 S_i_Store_left (tc Try.call122 S_i_Store_write_r97_0 tab_nil)))) Try.func106 (by kernel_rfl) (by decide) (E_i_Store_putUp P_i_inRange P_i_idOk P_i_Store_left P_i_Store_write_r97_0 P_i_Store_find)
abbrev p_i_PutUp : List PK := [.val true (.pair (.pair (.rs 9 .str) (.rs 9 .str)) (.pair (.int .i64) (.pair (.int .i64) (.rs 56 kUp)))) false, .val false .str false, .val false (.int .i64) false, .val false (.rs 5 (.int .u8)) false]
abbrev r_i_PutUp : List RK := [.val true kStore, .val false (.int .i64)]
noncomputable def D_i_PutUp (f : Y_i_PutUp) : Nat × Fn := (39, ⟨p_i_PutUp, r_i_PutUp, fun x => f x.1 x.2.1 x.2.2.1 x.2.2.2.1⟩)
noncomputable def F_i_PutUp : Fn := (D_i_PutUp P_i_PutUp).2
theorem E_i_PutUp (f_i_StoreOk : Y_i_StoreOk) (f_i_copyStore : Y_i_copyStore) (f_i_Store_putUp : Y_i_Store_putUp) : ∀ x, (mkFn cfg [D_i_StoreOk f_i_StoreOk, D_i_copyStore f_i_copyStore, D_i_Store_putUp f_i_Store_putUp] (lookN []) 24 [.cell 8 36, .tmp 9] (Try.f39.body.getD .skip) p_i_PutUp r_i_PutUp).fn x = B_i_PutUp f_i_StoreOk f_i_copyStore f_i_Store_putUp x.1 x.2.1 x.2.2.1 x.2.2.2.1 := by intro x; kernel_rfl
theorem S_i_PutUp : Sound Try.prog 39 F_i_PutUp := sm MO cfg_ok (tc Try.call28 S_i_StoreOk (tc Try.call64 S_i_copyStore (tc Try.call106 S_i_Store_putUp tab_nil))) Try.func39 (by kernel_rfl) (by decide) (E_i_PutUp P_i_StoreOk P_i_copyStore P_i_Store_putUp)
def A_w_sameBytes : Nat → Option Jn := lookN [(58, ⟨[.t 5 false [.int .i64]], lt 11 15 [], false⟩)]
abbrev p_w_sameBytes : List PK := [.val false (.rs 5 (.int .u8)) false, .val false (.rs 5 (.int .u8)) false]
abbrev r_w_sameBytes : List RK := [.val false .bool]
noncomputable def D_w_sameBytes (f : Y_w_sameBytes) : Nat × Fn := (41, ⟨p_w_sameBytes, r_w_sameBytes, fun x => f x.1 x.2.1⟩)
noncomputable def F_w_sameBytes : Fn := (D_w_sameBytes P_w_sameBytes).2
theorem E_w_sameBytes : ∀ x, (mkFn cfg [] A_w_sameBytes 26 [.tmp 4] (Try.f41.body.getD .skip) p_w_sameBytes r_w_sameBytes).fn x = B_w_sameBytes x.1 x.2.1 := by intro x; kernel_rfl
theorem S_w_sameBytes : Sound Try.prog 41 F_w_sameBytes := sm MO cfg_ok tab_nil Try.func41 (by kernel_rfl) (by decide) (E_w_sameBytes)
abbrev p_s_l1Size : List PK := [.val false (.rs 5 (.int .u8)) false, .val false (.int .i64) false]
abbrev r_s_l1Size : List RK := [.val false (.int .i64)]
noncomputable def D_s_l1Size (f : Y_s_l1Size) : Nat × Fn := (74, ⟨p_s_l1Size, r_s_l1Size, fun x => f x.1 x.2.1⟩)
noncomputable def F_s_l1Size : Fn := (D_s_l1Size P_s_l1Size).2
theorem E_s_l1Size : ∀ x, (mkFn cfg [] (lookN []) 15 [.tmp 4] (Try.f74.body.getD .skip) p_s_l1Size r_s_l1Size).fn x = B_s_l1Size x.1 x.2.1 := by intro x; kernel_rfl
theorem S_s_l1Size : Sound Try.prog 74 F_s_l1Size := sm MO cfg_ok tab_nil Try.func74 (by kernel_rfl) (by decide) (E_s_l1Size)
def A_s_DiskNew : Nat → Option Jn := lookN [(58, ⟨[.t 4 false [.int .i64], .b 3 [.own 100000000, .own 100000001], .r 100000000 9 .str, .r 100000001 9 .str], lt 6 19 [.r 17, .r 18, .r 22, .r 23], false⟩), (116, ⟨[], lt 6 7 [], false⟩)]
abbrev p_s_DiskNew : List PK := [.val false (.int .i64) false]
abbrev r_s_DiskNew : List RK := [.val true kDisk]
noncomputable def D_s_DiskNew (f : Y_s_DiskNew) : Nat × Fn := (129, ⟨p_s_DiskNew, r_s_DiskNew, fun x => f x.1⟩)
noncomputable def F_s_DiskNew : Fn := (D_s_DiskNew P_s_DiskNew).2
theorem E_s_DiskNew : ∀ x, (mkFn cfg [] A_s_DiskNew 26 [.cell 2 33] (Try.f129.body.getD .skip) p_s_DiskNew r_s_DiskNew).fn x = B_s_DiskNew x.1 := by intro x; kernel_rfl
theorem S_s_DiskNew : Sound Try.prog 129 F_s_DiskNew := sm MO cfg_ok tab_nil Try.func129 (by kernel_rfl) (by decide) (E_s_DiskNew)
abbrev p_s_StoreNew : List PK := [.val false (.int .i64) false]
abbrev r_s_StoreNew : List RK := [.val true kStore]
noncomputable def D_s_StoreNew (f : Y_s_StoreNew) : Nat × Fn := (76, ⟨p_s_StoreNew, r_s_StoreNew, fun x => f x.1⟩)
noncomputable def F_s_StoreNew : Fn := (D_s_StoreNew P_s_StoreNew).2
theorem E_s_StoreNew (f_s_DiskNew : Y_s_DiskNew) : ∀ x, (mkFn cfg [D_s_DiskNew f_s_DiskNew] (lookN []) 6 [.cell 2 36] (Try.f76.body.getD .skip) p_s_StoreNew r_s_StoreNew).fn x = B_s_StoreNew f_s_DiskNew x.1 := by intro x; kernel_rfl
theorem S_s_StoreNew : Sound Try.prog 76 F_s_StoreNew := sm MO cfg_ok (tc Try.call129 S_s_DiskNew tab_nil) Try.func76 (by kernel_rfl) (by decide) (E_s_StoreNew P_s_DiskNew)
abbrev p_s_l1In : List PK := [.val false (.int .i64) false, .val false (.int .i64) false, .val false (.int .i64) false]
abbrev r_s_l1In : List RK := [.val false .bool]
noncomputable def D_s_l1In (f : Y_s_l1In) : Nat × Fn := (58, ⟨p_s_l1In, r_s_l1In, fun x => f x.1 x.2.1 x.2.2.1⟩)
noncomputable def F_s_l1In : Fn := (D_s_l1In P_s_l1In).2
theorem E_s_l1In : ∀ x, (mkFn cfg [] (lookN []) 15 [.tmp 6] (Try.f58.body.getD .skip) p_s_l1In r_s_l1In).fn x = B_s_l1In x.1 x.2.1 x.2.2.1 := by intro x; kernel_rfl
theorem S_s_l1In : Sound Try.prog 58 F_s_l1In := sm MO cfg_ok tab_nil Try.func58 (by kernel_rfl) (by decide) (E_s_l1In)
def A_s_DiskOk : Nat → Option Jn := lookN [(3, ⟨[], lt 4 13 [], false⟩), (58, ⟨[.t 3 false [.int .i64]], lt 17 23 [], false⟩)]
abbrev p_s_DiskOk : List PK := [.val true (.pair (.rs 9 .str) (.rs 9 .str)) false]
abbrev r_s_DiskOk : List RK := [.val false .bool]
noncomputable def D_s_DiskOk (f : Y_s_DiskOk) : Nat × Fn := (97, ⟨p_s_DiskOk, r_s_DiskOk, fun x => f x.1⟩)
noncomputable def F_s_DiskOk : Fn := (D_s_DiskOk P_s_DiskOk).2
theorem E_s_DiskOk : ∀ x, (mkFn cfg [] A_s_DiskOk 40 [.tmp 2] (Try.f97.body.getD .skip) p_s_DiskOk r_s_DiskOk).fn x = B_s_DiskOk x.1 := by intro x; kernel_rfl
theorem S_s_DiskOk : Sound Try.prog 97 F_s_DiskOk := sm MO cfg_ok tab_nil Try.func97 (by kernel_rfl) (by decide) (E_s_DiskOk)
def A_s_Crc : Nat → Option Jn := lookN [(7, ⟨[.t 3 false [.int .i64]], lt 4 28 [], true⟩), (58, ⟨[.t 3 false [.int .i64], .t 4 false [.int .i64]], lt 5 27 [], false⟩), (7462, ⟨[.t 3 false [.int .i64], .t 5 false [.int .i64]], lt 20 12 [.t 6], false⟩)]
abbrev p_s_Crc : List PK := [.val false (.rs 5 (.int .u8)) false]
abbrev r_s_Crc : List RK := [.val false (.int .i64)]
noncomputable def D_s_Crc (f : Y_s_Crc) : Nat × Fn := (89, ⟨p_s_Crc, r_s_Crc, fun x => f x.1⟩)
noncomputable def F_s_Crc : Fn := (D_s_Crc P_s_Crc).2
theorem E_s_Crc : ∀ x, (mkFn cfg [] A_s_Crc 34 [.tmp 2] (Try.f89.body.getD .skip) p_s_Crc r_s_Crc).fn x = B_s_Crc x.1 := by intro x; kernel_rfl
theorem S_s_Crc : Sound Try.prog 89 F_s_Crc := sm MO cfg_ok tab_nil Try.func89 (by kernel_rfl) (by decide) (E_s_Crc)
def A_s_PutBig : Nat → Option Jn := lookN [(7, ⟨[.t 1 false [.int .i64]], [.t 12, .t 13], true⟩), (250, ⟨[.t 7 false [.own 100001000], .t 8 false [.int .i64], .r 100001000 5 (.int .u8)], lt 20 13 [.r 11, .r 31, .r 32], false⟩)]
abbrev p_s_PutBig : List PK := [.val false (.rs 5 (.int .u8)) false, .val false (.int .i64) false, .val false (.int .i64) false]
abbrev r_s_PutBig : List RK := [.val false (.sl 5 (.int .u8))]
noncomputable def D_s_PutBig (f : Y_s_PutBig) : Nat × Fn := (150, ⟨p_s_PutBig, r_s_PutBig, fun x => f x.1 x.2.1 x.2.2.1⟩)
noncomputable def F_s_PutBig : Fn := (D_s_PutBig P_s_PutBig).2
theorem E_s_PutBig (f_s_l1In : Y_s_l1In) : ∀ x, (mkFn cfg [D_s_l1In f_s_l1In] A_s_PutBig 34 [.tmp 6] (Try.f150.body.getD .skip) p_s_PutBig r_s_PutBig).fn x = B_s_PutBig f_s_l1In x.1 x.2.1 x.2.2.1 := by intro x; kernel_rfl
theorem S_s_PutBig : Sound Try.prog 150 F_s_PutBig := sm MO cfg_ok (tc Try.call58 S_s_l1In tab_nil) Try.func150 (by kernel_rfl) (by decide) (E_s_PutBig P_s_l1In)
abbrev p_s_l13Put : List PK := [.val true (.pair (.int .i64) (.pair (.int .i64) (.pair (.int .i64) (.pair .str (.pair (.int .i64) (.rs 5 (.int .u8))))))) false]
abbrev r_s_l13Put : List RK := [.val false .str]
noncomputable def D_s_l13Put (f : Y_s_l13Put) : Nat × Fn := (115, ⟨p_s_l13Put, r_s_l13Put, fun x => f x.1⟩)
noncomputable def F_s_l13Put : Fn := (D_s_l13Put P_s_l13Put).2
theorem E_s_l13Put (f_s_Crc : Y_s_Crc) (f_s_PutBig : Y_s_PutBig) : ∀ x, (mkFn cfg [D_s_Crc f_s_Crc, D_s_PutBig f_s_PutBig] (lookN []) 38 [.tmp 2] (Try.f115.body.getD .skip) p_s_l13Put r_s_l13Put).fn x = B_s_l13Put f_s_Crc f_s_PutBig x.1 := by intro x; kernel_rfl
theorem S_s_l13Put : Sound Try.prog 115 F_s_l13Put := sm MO cfg_ok (tc Try.call89 S_s_Crc (tc Try.call150 S_s_PutBig tab_nil)) Try.func115 (by kernel_rfl) (by decide) (E_s_l13Put P_s_Crc P_s_PutBig)
def A_s_GetBig : Nat → Option Jn := lookN [(3, ⟨[], lt 10 15 [], false⟩), (15, ⟨[.t 8 false [.int .i64]], lt 25 15 [.t 9], true⟩), (122, ⟨[.t 8 false [.int .i64], .t 9 false [.int .i64]], lt 25 15 [], false⟩)]
abbrev p_s_GetBig : List PK := [.val false (.rs 5 (.int .u8)) false, .val false (.int .i64) false, .val false (.int .i64) false]
abbrev r_s_GetBig : List RK := [.val false (.int .i64), .val false .bool]
noncomputable def D_s_GetBig (f : Y_s_GetBig) : Nat × Fn := (145, ⟨p_s_GetBig, r_s_GetBig, fun x => f x.1 x.2.1 x.2.2.1⟩)
noncomputable def F_s_GetBig : Fn := (D_s_GetBig P_s_GetBig).2
theorem E_s_GetBig (f_s_l1In : Y_s_l1In) : ∀ x, (mkFn cfg [D_s_l1In f_s_l1In] A_s_GetBig 41 [.tmp 6, .tmp 7] (Try.f145.body.getD .skip) p_s_GetBig r_s_GetBig).fn x = B_s_GetBig f_s_l1In x.1 x.2.1 x.2.2.1 := by intro x; kernel_rfl
theorem S_s_GetBig : Sound Try.prog 145 F_s_GetBig := sm MO cfg_ok (tc Try.call58 S_s_l1In tab_nil) Try.func145 (by kernel_rfl) (by decide) (E_s_GetBig P_s_l1In)
def A_s_l11Id : Nat → Option Jn := lookN [(3, ⟨[], lt 3 21 [], false⟩), (26, ⟨[.t 3 false [.int .i64]], lt 4 20 [], false⟩)]
abbrev p_s_l11Id : List PK := [.val false .str false]
abbrev r_s_l11Id : List RK := [.val false .bool]
noncomputable def D_s_l11Id (f : Y_s_l11Id) : Nat × Fn := (57, ⟨p_s_l11Id, r_s_l11Id, fun x => f x.1⟩)
noncomputable def F_s_l11Id : Fn := (D_s_l11Id P_s_l11Id).2
theorem E_s_l11Id (f_s_l1In : Y_s_l1In) : ∀ x, (mkFn cfg [D_s_l1In f_s_l1In] A_s_l11Id 27 [.tmp 2] (Try.f57.body.getD .skip) p_s_l11Id r_s_l11Id).fn x = B_s_l11Id f_s_l1In x.1 := by intro x; kernel_rfl
theorem S_s_l11Id : Sound Try.prog 57 F_s_l11Id := sm MO cfg_ok (tc Try.call58 S_s_l1In tab_nil) Try.func57 (by kernel_rfl) (by decide) (E_s_l11Id P_s_l1In)
def A_s_RecOk : Nat → Option Jn := lookN [(3, ⟨[], lt 3 16 [], false⟩), (943, ⟨[.t 43 false [.bool]], [.t 44, .t 45], true⟩)]
abbrev p_s_RecOk : List PK := [.val true (.pair (.int .i64) (.pair (.int .i64) (.pair (.int .i64) (.pair .str (.pair (.int .i64) (.rs 5 (.int .u8))))))) false]
abbrev r_s_RecOk : List RK := [.val false .bool]
noncomputable def D_s_RecOk (f : Y_s_RecOk) : Nat × Fn := (146, ⟨p_s_RecOk, r_s_RecOk, fun x => f x.1⟩)
noncomputable def F_s_RecOk : Fn := (D_s_RecOk P_s_RecOk).2
theorem E_s_RecOk (f_s_l11Id : Y_s_l11Id) (f_s_l1In : Y_s_l1In) : ∀ x, (mkFn cfg [D_s_l11Id f_s_l11Id, D_s_l1In f_s_l1In] A_s_RecOk 55 [.tmp 2] (Try.f146.body.getD .skip) p_s_RecOk r_s_RecOk).fn x = B_s_RecOk f_s_l11Id f_s_l1In x.1 := by intro x; kernel_rfl
theorem S_s_RecOk : Sound Try.prog 146 F_s_RecOk := sm MO cfg_ok (tc Try.call57 S_s_l11Id (tc Try.call58 S_s_l1In tab_nil)) Try.func146 (by kernel_rfl) (by decide) (E_s_RecOk P_s_l11Id P_s_l1In)
def A_s_GetRec : Nat → Option Jn := lookN [(255, ⟨[], lt 42 21 [], false⟩), (4095, ⟨[], lt 87 15 [], false⟩)]
abbrev p_s_GetRec : List PK := [.val false .str false]
abbrev r_s_GetRec : List RK := [.val true kRec, .val false .bool]
noncomputable def D_s_GetRec (f : Y_s_GetRec) : Nat × Fn := (108, ⟨p_s_GetRec, r_s_GetRec, fun x => f x.1⟩)
noncomputable def F_s_GetRec : Fn := (D_s_GetRec P_s_GetRec).2
theorem E_s_GetRec (f_s_l13Put : Y_s_l13Put) (f_s_GetBig : Y_s_GetBig) (f_s_RecOk : Y_s_RecOk) : ∀ x, (mkFn cfg [D_s_l13Put f_s_l13Put, D_s_GetBig f_s_GetBig, D_s_RecOk f_s_RecOk] A_s_GetRec 127 [.cell 2 97, .tmp 3] (Try.f108.body.getD .skip) p_s_GetRec r_s_GetRec).fn x = B_s_GetRec f_s_l13Put f_s_GetBig f_s_RecOk x.1 := by intro x; kernel_rfl
theorem S_s_GetRec : Sound Try.prog 108 F_s_GetRec := sm MO cfg_ok (tc Try.call115 S_s_l13Put (tc Try.call145 S_s_GetBig (tc Try.call146 S_s_RecOk tab_nil))) Try.func108 (by kernel_rfl) (by decide) (E_s_GetRec P_s_l13Put P_s_GetBig P_s_RecOk)
def A_s_ScanRecs : Nat → Option Jn := lookN [(122, ⟨[.t 3 false [.own 100000000], .t 4 false [.int .i64], .t 5 false [.int .i64], .r 100000000 97 kRec], lt 40 6 (lt 9 30 [.b 6, .r 8, .r 42, .r 43, .r 94213, .t 6, .t 7]), false⟩)]
abbrev p_s_ScanRecs : List PK := [.val true (.pair (.rs 9 .str) (.rs 9 .str)) false]
abbrev r_s_ScanRecs : List RK := [.val false (.sl 97 kRec)]
noncomputable def D_s_ScanRecs (f : Y_s_ScanRecs) : Nat × Fn := (98, ⟨p_s_ScanRecs, r_s_ScanRecs, fun x => f x.1⟩)
noncomputable def F_s_ScanRecs : Fn := (D_s_ScanRecs P_s_ScanRecs).2
theorem E_s_ScanRecs (f_s_GetRec : Y_s_GetRec) : ∀ x, (mkFn cfg [D_s_GetRec f_s_GetRec] A_s_ScanRecs 47 [.tmp 2] (Try.f98.body.getD .skip) p_s_ScanRecs r_s_ScanRecs).fn x = B_s_ScanRecs f_s_GetRec x.1 := by intro x; kernel_rfl
theorem S_s_ScanRecs : Sound Try.prog 98 F_s_ScanRecs := sm MO cfg_ok (tc Try.call108 S_s_GetRec tab_nil) Try.func98 (by kernel_rfl) (by decide) (E_s_ScanRecs P_s_GetRec)
def A_s_l14At : Nat → Option Jn := lookN [(26, ⟨[.t 5 false [.int .i64]], lt 6 13 [], false⟩)]
abbrev p_s_l14At : List PK := [.val false (.rs 56 kUp) false, .val false .str false]
abbrev r_s_l14At : List RK := [.val false (.int .i64)]
noncomputable def D_s_l14At (f : Y_s_l14At) : Nat × Fn := (59, ⟨p_s_l14At, r_s_l14At, fun x => f x.1 x.2.1⟩)
noncomputable def F_s_l14At : Fn := (D_s_l14At P_s_l14At).2
theorem E_s_l14At : ∀ x, (mkFn cfg [] A_s_l14At 20 [.tmp 4] (Try.f59.body.getD .skip) p_s_l14At r_s_l14At).fn x = B_s_l14At x.1 x.2.1 := by intro x; kernel_rfl
theorem S_s_l14At : Sound Try.prog 59 F_s_l14At := sm MO cfg_ok tab_nil Try.func59 (by kernel_rfl) (by decide) (E_s_l14At)
def A_s_l14CopyUps : Nat → Option Jn := lookN [(58, ⟨[.t 3 false [.own 100000000], .t 4 false [.int .i64], .r 100000000 56 kUp], lt 7 19 [.b 5, .r 6, .r 17, .r 20, .r 24, .r 25, .t 5], false⟩)]
abbrev p_s_l14CopyUps : List PK := [.val false (.rs 56 kUp) false]
abbrev r_s_l14CopyUps : List RK := [.val false (.sl 56 kUp)]
noncomputable def D_s_l14CopyUps (f : Y_s_l14CopyUps) : Nat × Fn := (114, ⟨p_s_l14CopyUps, r_s_l14CopyUps, fun x => f x.1⟩)
noncomputable def F_s_l14CopyUps : Fn := (D_s_l14CopyUps P_s_l14CopyUps).2
theorem E_s_l14CopyUps : ∀ x, (mkFn cfg [] A_s_l14CopyUps 27 [.tmp 2] (Try.f114.body.getD .skip) p_s_l14CopyUps r_s_l14CopyUps).fn x = B_s_l14CopyUps x.1 := by intro x; kernel_rfl
theorem S_s_l14CopyUps : Sound Try.prog 114 F_s_l14CopyUps := sm MO cfg_ok tab_nil Try.func114 (by kernel_rfl) (by decide) (E_s_l14CopyUps)
def A_s_l14CopyUps_r98_0_r99_0 : Nat → Option Jn := lookN [(58, ⟨[.t 3 false [.own 100000000], .t 4 false [.int .i64], .r 100000000 56 (.pair .str (.pair (.int .i64) (.pair (.rs 5 (.int .u8)) .bool)))], lt 7 19 [.b 5, .r 6, .r 17, .r 20, .r 24, .r 25, .t 5], false⟩)]
abbrev p_s_l14CopyUps_r98_0_r99_0 : List PK := [.val false (.rs 56 kUp) false]
abbrev r_s_l14CopyUps_r98_0_r99_0 : List RK := [.val false (.sl 56 (.pair .str (.pair (.int .i64) (.pair (.rs 5 (.int .u8)) .bool))))]
noncomputable def D_s_l14CopyUps_r98_0_r99_0 (f : Y_s_l14CopyUps) : Nat × Fn := (114, ⟨p_s_l14CopyUps_r98_0_r99_0, r_s_l14CopyUps_r98_0_r99_0, fun x => f x.1⟩)
noncomputable def F_s_l14CopyUps_r98_0_r99_0 : Fn := (D_s_l14CopyUps_r98_0_r99_0 P_s_l14CopyUps).2
theorem E_s_l14CopyUps_r98_0_r99_0 : ∀ x, (mkFn cfgR [] A_s_l14CopyUps_r98_0_r99_0 27 [.tmp 2] (Try.f114.body.getD .skip) p_s_l14CopyUps_r98_0_r99_0 r_s_l14CopyUps_r98_0_r99_0).fn x = B_s_l14CopyUps x.1 := by intro x; kernel_rfl
theorem S_s_l14CopyUps_r98_0_r99_0 : Sound Try.prog 114 F_s_l14CopyUps_r98_0_r99_0 := sm MO cfgR_ok tab_nil Try.func114 (by kernel_rfl) (by decide) (E_s_l14CopyUps_r98_0_r99_0)
def A_s_l14Make_r98_0_r99_0 : Nat → Option Jn := lookN [(15, ⟨[.t 5 false [.own 11], .t 6 false [.int .i64], .r 11 56 (.pair .str (.pair (.int .i64) (.pair (.rs 5 (.int .u8)) .bool)))], lt 15 23 [.x 21, .x 33, .x 35], true⟩), (60, ⟨[.t 5 false [.own 11], .t 6 false [.int .i64], .r 11 56 (.pair .str (.pair (.int .i64) (.pair (.rs 5 (.int .u8)) .bool)))], lt 15 23 [.x 21, .x 33, .x 35], false⟩), (120, ⟨[], lt 15 13 [.x 21], false⟩)]
abbrev p_s_l14Make_r98_0_r99_0 : List PK := [.val false (.rs 56 kUp) false, .val true (.pair .str (.pair (.int .i64) (.pair (.rs 5 (.int .u8)) .bool))) false]
abbrev r_s_l14Make_r98_0_r99_0 : List RK := [.val false (.sl 56 (.pair .str (.pair (.int .i64) (.pair (.rs 5 (.int .u8)) .bool))))]
noncomputable def D_s_l14Make_r98_0_r99_0 (f : Y_s_l14Make_r98_0_r99_0) : Nat × Fn := (151, ⟨p_s_l14Make_r98_0_r99_0, r_s_l14Make_r98_0_r99_0, fun x => f x.1 x.2.1⟩)
noncomputable def F_s_l14Make_r98_0_r99_0 : Fn := (D_s_l14Make_r98_0_r99_0 P_s_l14Make_r98_0_r99_0).2
theorem E_s_l14Make_r98_0_r99_0 (f_s_l14CopyUps : Y_s_l14CopyUps) : ∀ x, (mkFn cfgR [D_s_l14CopyUps_r98_0_r99_0 f_s_l14CopyUps] A_s_l14Make_r98_0_r99_0 43 [.tmp 4] (Try.f151.body.getD .skip) p_s_l14Make_r98_0_r99_0 r_s_l14Make_r98_0_r99_0).fn x = B_s_l14Make_r98_0_r99_0 f_s_l14CopyUps x.1 x.2.1 := by intro x; kernel_rfl
theorem S_s_l14Make_r98_0_r99_0 : Sound Try.prog 151 F_s_l14Make_r98_0_r99_0 := sm MO cfgR_ok (tc Try.call114 S_s_l14CopyUps_r98_0_r99_0 tab_nil) Try.func151 (by kernel_rfl) (by decide) (E_s_l14Make_r98_0_r99_0 P_s_l14CopyUps)
def A_s_l14One_r99_0 : Nat → Option Jn := lookN [(4074, ⟨[], lt 43 27 [], false⟩)]
abbrev p_s_l14One_r99_0 : List PK := [.val false (.rs 56 kUp) false, .val true (.pair (.int .i64) (.pair (.int .i64) (.pair (.int .i64) (.pair .str (.pair (.int .i64) (.rs 5 (.int .u8))))))) false]
abbrev r_s_l14One_r99_0 : List RK := [.val false (.rs 56 (.pair .str (.pair (.int .i64) (.pair (.rs 5 (.int .u8)) .bool)))), .val false .bool]
noncomputable def D_s_l14One_r99_0 (f : Y_s_l14One_r99_0) : Nat × Fn := (116, ⟨p_s_l14One_r99_0, r_s_l14One_r99_0, fun x => f x.1 x.2.1⟩)
noncomputable def F_s_l14One_r99_0 : Fn := (D_s_l14One_r99_0 P_s_l14One_r99_0).2
theorem E_s_l14One_r99_0 (f_s_l14At : Y_s_l14At) (f_s_l14CopyUps : Y_s_l14CopyUps) (f_s_l14Make_r98_0_r99_0 : Y_s_l14Make_r98_0_r99_0) : ∀ x, (mkFn cfg [D_s_l14At f_s_l14At, D_s_l14CopyUps f_s_l14CopyUps, D_s_l14Make_r98_0_r99_0 f_s_l14Make_r98_0_r99_0] A_s_l14One_r99_0 114 [.tmp 4, .tmp 5] (Try.f116.body.getD .skip) p_s_l14One_r99_0 r_s_l14One_r99_0).fn x = B_s_l14One_r99_0 f_s_l14At f_s_l14CopyUps f_s_l14Make_r98_0_r99_0 x.1 x.2.1 := by intro x; kernel_rfl
theorem S_s_l14One_r99_0 : Sound Try.prog 116 F_s_l14One_r99_0 := sm MO cfg_ok (tc Try.call59 S_s_l14At (tc Try.call114 S_s_l14CopyUps (tc Try.call151 S_s_l14Make_r98_0_r99_0 tab_nil))) Try.func116 (by kernel_rfl) (by decide) (E_s_l14One_r99_0 P_s_l14At P_s_l14CopyUps P_s_l14Make_r98_0_r99_0)
def A_s_l14SameUps : Nat → Option Jn := lookN [(58, ⟨[.t 5 false [.int .i64]], lt 11 58 [], false⟩)]
abbrev p_s_l14SameUps : List PK := [.val false (.rs 56 kUp) false, .val false (.rs 56 kUp) false]
abbrev r_s_l14SameUps : List RK := [.val false .bool]
noncomputable def D_s_l14SameUps (f : Y_s_l14SameUps) : Nat × Fn := (107, ⟨p_s_l14SameUps, r_s_l14SameUps, fun x => f x.1 x.2.1⟩)
noncomputable def F_s_l14SameUps : Fn := (D_s_l14SameUps P_s_l14SameUps).2
theorem E_s_l14SameUps : ∀ x, (mkFn cfg [] A_s_l14SameUps 69 [.tmp 4] (Try.f107.body.getD .skip) p_s_l14SameUps r_s_l14SameUps).fn x = B_s_l14SameUps x.1 x.2.1 := by intro x; kernel_rfl
theorem S_s_l14SameUps : Sound Try.prog 107 F_s_l14SameUps := sm MO cfg_ok tab_nil Try.func107 (by kernel_rfl) (by decide) (E_s_l14SameUps)
def A_s_FoldRecs_r99_0 : Nat → Option Jn := lookN [(7, ⟨[.t 4 false [.ro 56 (.pair .str (.pair (.int .i64) (.pair (.rs 5 (.int .u8)) .bool)))]], lt 5 21 [.r 8, .t 27], false⟩), (58, ⟨[.t 4 false [.ro 56 (.pair .str (.pair (.int .i64) (.pair (.rs 5 (.int .u8)) .bool)))], .t 5 false [.int .i64]], lt 6 20 [.r 8, .t 27], false⟩)]
abbrev p_s_FoldRecs_r99_0 : List PK := [.val false (.rs 97 kRec) false]
abbrev r_s_FoldRecs_r99_0 : List RK := [.val false (.rs 56 kUp), .val false .bool]
noncomputable def D_s_FoldRecs_r99_0 (f : Y_s_FoldRecs_r99_0) : Nat × Fn := (99, ⟨p_s_FoldRecs_r99_0, r_s_FoldRecs_r99_0, fun x => f x.1⟩)
noncomputable def F_s_FoldRecs_r99_0 : Fn := (D_s_FoldRecs_r99_0 P_s_FoldRecs_r99_0).2
theorem E_s_FoldRecs_r99_0 (f_s_l14One_r99_0 : Y_s_l14One_r99_0) : ∀ x, (mkFn cfg [D_s_l14One_r99_0 f_s_l14One_r99_0] A_s_FoldRecs_r99_0 29 [.tmp 2, .tmp 3] (Try.f99.body.getD .skip) p_s_FoldRecs_r99_0 r_s_FoldRecs_r99_0).fn x = B_s_FoldRecs_r99_0 f_s_l14One_r99_0 x.1 := by intro x; kernel_rfl
theorem S_s_FoldRecs_r99_0 : Sound Try.prog 99 F_s_FoldRecs_r99_0 := sm MO cfg_ok (tc Try.call116 S_s_l14One_r99_0 tab_nil) Try.func99 (by kernel_rfl) (by decide) (E_s_FoldRecs_r99_0 P_s_l14One_r99_0)
def A_s_StoreOk : Nat → Option Jn := lookN [(3, ⟨[], lt 9 10 [], false⟩), (31, ⟨[], lt 27 33 [], false⟩), (506, ⟨[.t 6 false [.int .i64]], lt 62 26 [.b 7, .r 319493, .t 7, .t 8], false⟩)]
abbrev p_s_StoreOk : List PK := [.val true (.pair (.pair (.rs 9 .str) (.rs 9 .str)) (.pair (.int .i64) (.pair (.int .i64) (.rs 56 kUp)))) false]
abbrev r_s_StoreOk : List RK := [.val false .bool]
noncomputable def D_s_StoreOk (f : Y_s_StoreOk) : Nat × Fn := (50, ⟨p_s_StoreOk, r_s_StoreOk, fun x => f x.1⟩)
noncomputable def F_s_StoreOk : Fn := (D_s_StoreOk P_s_StoreOk).2
theorem E_s_StoreOk (f_s_l1In : Y_s_l1In) (f_s_DiskOk : Y_s_DiskOk) (f_s_ScanRecs : Y_s_ScanRecs) (f_s_FoldRecs_r99_0 : Y_s_FoldRecs_r99_0) (f_s_l14SameUps : Y_s_l14SameUps) (f_s_GetRec : Y_s_GetRec) : ∀ x, (mkFn cfg [D_s_l1In f_s_l1In, D_s_DiskOk f_s_DiskOk, D_s_ScanRecs f_s_ScanRecs, D_s_FoldRecs_r99_0 f_s_FoldRecs_r99_0, D_s_l14SameUps f_s_l14SameUps, D_s_GetRec f_s_GetRec] A_s_StoreOk 88 [.tmp 2] (Try.f50.body.getD .skip) p_s_StoreOk r_s_StoreOk).fn x = B_s_StoreOk f_s_l1In f_s_DiskOk f_s_ScanRecs f_s_FoldRecs_r99_0 f_s_l14SameUps f_s_GetRec x.1 := by intro x; kernel_rfl
theorem S_s_StoreOk : Sound Try.prog 50 F_s_StoreOk := sm MO cfg_ok (tc Try.call58 S_s_l1In (tc Try.call97 S_s_DiskOk (tc Try.call98 S_s_ScanRecs (tc Try.call99 S_s_FoldRecs_r99_0 (tc Try.call107 S_s_l14SameUps (tc Try.call108 S_s_GetRec tab_nil)))))) Try.func50 (by kernel_rfl) (by decide) (E_s_StoreOk P_s_l1In P_s_DiskOk P_s_ScanRecs P_s_FoldRecs_r99_0 P_s_l14SameUps P_s_GetRec)
abbrev p_s_l12Copy : List PK := [.val true (.pair (.rs 9 .str) (.rs 9 .str)) false]
abbrev r_s_l12Copy : List RK := [.val true kDisk]
noncomputable def D_s_l12Copy (f : Y_s_l12Copy) : Nat × Fn := (101, ⟨p_s_l12Copy, r_s_l12Copy, fun x => f x.1⟩)
noncomputable def F_s_l12Copy : Fn := (D_s_l12Copy P_s_l12Copy).2
theorem E_s_l12Copy : ∀ x, (mkFn cfg [] (lookN []) 12 [.cell 2 33] (Try.f101.body.getD .skip) p_s_l12Copy r_s_l12Copy).fn x = B_s_l12Copy x.1 := by intro x; kernel_rfl
theorem S_s_l12Copy : Sound Try.prog 101 F_s_l12Copy := sm MO cfg_ok tab_nil Try.func101 (by kernel_rfl) (by decide) (E_s_l12Copy)
abbrev p_s_l14Copy : List PK := [.val true (.pair (.pair (.rs 9 .str) (.rs 9 .str)) (.pair (.int .i64) (.pair (.int .i64) (.rs 56 kUp)))) false]
abbrev r_s_l14Copy : List RK := [.val true kStore]
noncomputable def D_s_l14Copy (f : Y_s_l14Copy) : Nat × Fn := (56, ⟨p_s_l14Copy, r_s_l14Copy, fun x => f x.1⟩)
noncomputable def F_s_l14Copy : Fn := (D_s_l14Copy P_s_l14Copy).2
theorem E_s_l14Copy (f_s_l12Copy : Y_s_l12Copy) (f_s_l14CopyUps : Y_s_l14CopyUps) : ∀ x, (mkFn cfg [D_s_l12Copy f_s_l12Copy, D_s_l14CopyUps f_s_l14CopyUps] (lookN []) 14 [.cell 2 36] (Try.f56.body.getD .skip) p_s_l14Copy r_s_l14Copy).fn x = B_s_l14Copy f_s_l12Copy f_s_l14CopyUps x.1 := by intro x; kernel_rfl
theorem S_s_l14Copy : Sound Try.prog 56 F_s_l14Copy := sm MO cfg_ok (tc Try.call101 S_s_l12Copy (tc Try.call114 S_s_l14CopyUps tab_nil)) Try.func56 (by kernel_rfl) (by decide) (E_s_l14Copy P_s_l12Copy P_s_l14CopyUps)
abbrev p_s_l14Left : List PK := [.val true (.pair (.pair (.rs 9 .str) (.rs 9 .str)) (.pair (.int .i64) (.pair (.int .i64) (.rs 56 kUp)))) false]
abbrev r_s_l14Left : List RK := [.val false (.int .i64)]
noncomputable def D_s_l14Left (f : Y_s_l14Left) : Nat × Fn := (60, ⟨p_s_l14Left, r_s_l14Left, fun x => f x.1⟩)
noncomputable def F_s_l14Left : Fn := (D_s_l14Left P_s_l14Left).2
theorem E_s_l14Left : ∀ x, (mkFn cfg [] (lookN []) 10 [.tmp 2] (Try.f60.body.getD .skip) p_s_l14Left r_s_l14Left).fn x = B_s_l14Left x.1 := by intro x; kernel_rfl
theorem S_s_l14Left : Sound Try.prog 60 F_s_l14Left := sm MO cfg_ok tab_nil Try.func60 (by kernel_rfl) (by decide) (E_s_l14Left)
abbrev p_s_l14Write_r0_4 : List PK := [.ptr (.pair kDisk (.pair (.int .i64) (.pair (.int .i64) (.rs 56 kUp)))), .val true (.pair (.int .i64) (.pair (.int .i64) (.pair (.int .i64) (.pair .str (.pair (.int .i64) (.rs 5 (.int .u8))))))) false]
abbrev r_s_l14Write_r0_4 : List RK := []
noncomputable def D_s_l14Write_r0_4 (f : Y_s_l14Write_r0_4) : Nat × Fn := (61, ⟨p_s_l14Write_r0_4, r_s_l14Write_r0_4, fun x => f x.1 x.2.1⟩)
noncomputable def F_s_l14Write_r0_4 : Fn := (D_s_l14Write_r0_4 P_s_l14Write_r0_4).2
theorem E_s_l14Write_r0_4 (f_s_l13Put : Y_s_l13Put) (f_s_l14One_r99_0 : Y_s_l14One_r99_0) : ∀ x, (mkFn cfg [D_s_l13Put f_s_l13Put, D_s_l14One_r99_0 f_s_l14One_r99_0] (lookN []) 46 [] (Try.f61.body.getD .skip) p_s_l14Write_r0_4 r_s_l14Write_r0_4).fn x = B_s_l14Write_r0_4 f_s_l13Put f_s_l14One_r99_0 x.1 x.2.1 := by intro x; kernel_rfl
theorem S_s_l14Write_r0_4 : Sound Try.prog 61 F_s_l14Write_r0_4 := sm MO cfg_ok (tc Try.call115 S_s_l13Put (tc Try.call116 S_s_l14One_r99_0 tab_nil)) Try.func61 (by kernel_rfl) (by decide) (E_s_l14Write_r0_4 P_s_l13Put P_s_l14One_r99_0)
def A_s_TopEpoch : Nat → Option Jn := lookN [(58, ⟨[.t 3 false [.int .i64], .t 4 false [.int .i64]], lt 5 27 [.b 5, .r 86021], false⟩)]
abbrev p_s_TopEpoch : List PK := [.val true (.pair (.rs 9 .str) (.rs 9 .str)) false]
abbrev r_s_TopEpoch : List RK := [.val false (.int .i64)]
noncomputable def D_s_TopEpoch (f : Y_s_TopEpoch) : Nat × Fn := (100, ⟨p_s_TopEpoch, r_s_TopEpoch, fun x => f x.1⟩)
noncomputable def F_s_TopEpoch : Fn := (D_s_TopEpoch P_s_TopEpoch).2
theorem E_s_TopEpoch (f_s_GetRec : Y_s_GetRec) : ∀ x, (mkFn cfg [D_s_GetRec f_s_GetRec] A_s_TopEpoch 33 [.tmp 2] (Try.f100.body.getD .skip) p_s_TopEpoch r_s_TopEpoch).fn x = B_s_TopEpoch f_s_GetRec x.1 := by intro x; kernel_rfl
theorem S_s_TopEpoch : Sound Try.prog 100 F_s_TopEpoch := sm MO cfg_ok (tc Try.call108 S_s_GetRec tab_nil) Try.func100 (by kernel_rfl) (by decide) (E_s_TopEpoch P_s_GetRec)
def A_s_FallDisk : Nat → Option Jn := lookN [(122, ⟨[.t 6 false [.int .i64], .b 5 [.own 36864, .own 36865], .r 36864 9 .str, .r 36865 9 .str], lt 13 35 [.x 36, .x 38, .x 45, .x 47], false⟩), (1956, ⟨[.t 29 false [.bool]], lt 20 9 [], true⟩)]
abbrev p_s_FallDisk : List PK := [.val true (.pair (.rs 9 .str) (.rs 9 .str)) false, .val false (.rs 4 .bool) false]
abbrev r_s_FallDisk : List RK := [.val true kDisk]
noncomputable def D_s_FallDisk (f : Y_s_FallDisk) : Nat × Fn := (94, ⟨p_s_FallDisk, r_s_FallDisk, fun x => f x.1 x.2.1⟩)
noncomputable def F_s_FallDisk : Fn := (D_s_FallDisk P_s_FallDisk).2
theorem E_s_FallDisk (f_s_DiskOk : Y_s_DiskOk) (f_s_l12Copy : Y_s_l12Copy) : ∀ x, (mkFn cfg [D_s_DiskOk f_s_DiskOk, D_s_l12Copy f_s_l12Copy] A_s_FallDisk 49 [.cell 4 33] (Try.f94.body.getD .skip) p_s_FallDisk r_s_FallDisk).fn x = B_s_FallDisk f_s_DiskOk f_s_l12Copy x.1 x.2.1 := by intro x; kernel_rfl
theorem S_s_FallDisk : Sound Try.prog 94 F_s_FallDisk := sm MO cfg_ok (tc Try.call97 S_s_DiskOk (tc Try.call101 S_s_l12Copy tab_nil)) Try.func94 (by kernel_rfl) (by decide) (E_s_FallDisk P_s_DiskOk P_s_l12Copy)
abbrev p_s_UpAt : List PK := [.val true (.pair (.pair (.rs 9 .str) (.rs 9 .str)) (.pair (.int .i64) (.pair (.int .i64) (.rs 56 kUp)))) false, .val false .str false]
abbrev r_s_UpAt : List RK := [.val true kUp, .val false .bool]
noncomputable def D_s_UpAt (f : Y_s_UpAt) : Nat × Fn := (104, ⟨p_s_UpAt, r_s_UpAt, fun x => f x.1 x.2.1⟩)
noncomputable def F_s_UpAt : Fn := (D_s_UpAt P_s_UpAt).2
theorem E_s_UpAt (f_s_l14At : Y_s_l14At) : ∀ x, (mkFn cfg [D_s_l14At f_s_l14At] (lookN []) 26 [.cell 4 56, .tmp 5] (Try.f104.body.getD .skip) p_s_UpAt r_s_UpAt).fn x = B_s_UpAt f_s_l14At x.1 x.2.1 := by intro x; kernel_rfl
theorem S_s_UpAt : Sound Try.prog 104 F_s_UpAt := sm MO cfg_ok (tc Try.call59 S_s_l14At tab_nil) Try.func104 (by kernel_rfl) (by decide) (E_s_UpAt P_s_l14At)
abbrev p_s_FlushDisk : List PK := [.val true (.pair (.rs 9 .str) (.rs 9 .str)) false]
abbrev r_s_FlushDisk : List RK := [.val true kDisk]
noncomputable def D_s_FlushDisk (f : Y_s_FlushDisk) : Nat × Fn := (157, ⟨p_s_FlushDisk, r_s_FlushDisk, fun x => f x.1⟩)
noncomputable def F_s_FlushDisk : Fn := (D_s_FlushDisk P_s_FlushDisk).2
theorem E_s_FlushDisk : ∀ x, (mkFn cfg [] (lookN []) 12 [.cell 2 33] (Try.f157.body.getD .skip) p_s_FlushDisk r_s_FlushDisk).fn x = B_s_FlushDisk x.1 := by intro x; kernel_rfl
theorem S_s_FlushDisk : Sound Try.prog 157 F_s_FlushDisk := sm MO cfg_ok tab_nil Try.func157 (by kernel_rfl) (by decide) (E_s_FlushDisk)
abbrev p_s_SyncStore : List PK := [.val true (.pair (.pair (.rs 9 .str) (.rs 9 .str)) (.pair (.int .i64) (.pair (.int .i64) (.rs 56 kUp)))) false]
abbrev r_s_SyncStore : List RK := [.val true kStore]
noncomputable def D_s_SyncStore (f : Y_s_SyncStore) : Nat × Fn := (159, ⟨p_s_SyncStore, r_s_SyncStore, fun x => f x.1⟩)
noncomputable def F_s_SyncStore : Fn := (D_s_SyncStore P_s_SyncStore).2
theorem E_s_SyncStore (f_s_StoreOk : Y_s_StoreOk) (f_s_l14Copy : Y_s_l14Copy) (f_s_FlushDisk : Y_s_FlushDisk) : ∀ x, (mkFn cfg [D_s_StoreOk f_s_StoreOk, D_s_l14Copy f_s_l14Copy, D_s_FlushDisk f_s_FlushDisk] (lookN []) 13 [.cell 2 36] (Try.f159.body.getD .skip) p_s_SyncStore r_s_SyncStore).fn x = B_s_SyncStore f_s_StoreOk f_s_l14Copy f_s_FlushDisk x.1 := by intro x; kernel_rfl
theorem S_s_SyncStore : Sound Try.prog 159 F_s_SyncStore := sm MO cfg_ok (tc Try.call50 S_s_StoreOk (tc Try.call56 S_s_l14Copy (tc Try.call157 S_s_FlushDisk tab_nil))) Try.func159 (by kernel_rfl) (by decide) (E_s_SyncStore P_s_StoreOk P_s_l14Copy P_s_FlushDisk)
def A_s_MakeUp_r99_0 : Nat → Option Jn := lookN [(7, ⟨[], lt 33 10 (lt 26 6 (lt 11 14 [])), false⟩), (28, ⟨[.t 11 false [.bool]], lt 12 13 [], true⟩)]
abbrev p_s_MakeUp_r99_0 : List PK := [.val true (.pair (.pair (.rs 9 .str) (.rs 9 .str)) (.pair (.int .i64) (.pair (.int .i64) (.rs 56 kUp)))) false, .val false .str false, .val false (.int .i64) false]
abbrev r_s_MakeUp_r99_0 : List RK := [.val true (.pair kDisk (.pair (.int .i64) (.pair (.int .i64) (.rs 56 kUp)))), .val false (.int .i64)]
noncomputable def D_s_MakeUp_r99_0 (f : Y_s_MakeUp_r99_0) : Nat × Fn := (17, ⟨p_s_MakeUp_r99_0, r_s_MakeUp_r99_0, fun x => f x.1 x.2.1 x.2.2.1⟩)
noncomputable def F_s_MakeUp_r99_0 : Fn := (D_s_MakeUp_r99_0 P_s_MakeUp_r99_0).2
theorem E_s_MakeUp_r99_0 (f_s_StoreOk : Y_s_StoreOk) (f_s_l14Copy : Y_s_l14Copy) (f_s_l11Id : Y_s_l11Id) (f_s_l1In : Y_s_l1In) (f_s_l14At : Y_s_l14At) (f_s_l14Left : Y_s_l14Left) (f_s_l14Write_r0_4 : Y_s_l14Write_r0_4) : ∀ x, (mkFn cfg [D_s_StoreOk f_s_StoreOk, D_s_l14Copy f_s_l14Copy, D_s_l11Id f_s_l11Id, D_s_l1In f_s_l1In, D_s_l14At f_s_l14At, D_s_l14Left f_s_l14Left, D_s_l14Write_r0_4 f_s_l14Write_r0_4] A_s_MakeUp_r99_0 49 [.cell 6 36, .tmp 7] (Try.f17.body.getD .skip) p_s_MakeUp_r99_0 r_s_MakeUp_r99_0).fn x = B_s_MakeUp_r99_0 f_s_StoreOk f_s_l14Copy f_s_l11Id f_s_l1In f_s_l14At f_s_l14Left f_s_l14Write_r0_4 x.1 x.2.1 x.2.2.1 := by intro x; kernel_rfl
theorem S_s_MakeUp_r99_0 : Sound Try.prog 17 F_s_MakeUp_r99_0 := sm MO cfg_ok (tc Try.call50 S_s_StoreOk (tc Try.call56 S_s_l14Copy (tc Try.call57 S_s_l11Id (tc Try.call58 S_s_l1In (tc Try.call59 S_s_l14At (tc Try.call60 S_s_l14Left (tc Try.call61 S_s_l14Write_r0_4 tab_nil))))))) Try.func17 (by kernel_rfl) (by decide) (E_s_MakeUp_r99_0 P_s_StoreOk P_s_l14Copy P_s_l11Id P_s_l1In P_s_l14At P_s_l14Left P_s_l14Write_r0_4)
def A_s_PutUp_r99_0 : Nat → Option Jn := lookN [(7, ⟨[], lt 17 14 [], false⟩), (127, ⟨[], lt 64 9 (lt 44 19 []), false⟩), (255, ⟨[.b 10 [.own 100003000, .own 100003001, .int .i64, .int .i64, .ro 56 kUp], .r 100003000 9 .str, .r 100003001 9 .str], lt 74 26 [.r 92, .r 97, .r 69632, .r 69633, .r 69636, .r 411648, .r 411649, .t 13, .t 14, .t 16], true⟩), (508, ⟨[.t 44 false [.bool]], lt 45 18 [], true⟩), (2042, ⟨[.t 13 false [.int .i64], .b 10 [.own 100003000, .own 100003001, .int .i64, .int .i64, .ro 56 kUp], .r 100003000 9 .str, .r 100003001 9 .str], lt 74 26 [.r 92, .r 97, .r 69632, .r 69633, .r 69636, .r 411648, .r 411649, .t 14, .t 16], false⟩), (65353, ⟨[.t 14 false [.int .i64]], lt 82 6 [], true⟩)]
abbrev p_s_PutUp_r99_0 : List PK := [.val true (.pair (.pair (.rs 9 .str) (.rs 9 .str)) (.pair (.int .i64) (.pair (.int .i64) (.rs 56 kUp)))) false, .val false .str false, .val false (.int .i64) false, .val false (.rs 5 (.int .u8)) false]
abbrev r_s_PutUp_r99_0 : List RK := [.val true (.pair kDisk (.pair (.int .i64) (.pair (.int .i64) (.rs 56 kUp)))), .val false (.int .i64)]
noncomputable def D_s_PutUp_r99_0 (f : Y_s_PutUp_r99_0) : Nat × Fn := (40, ⟨p_s_PutUp_r99_0, r_s_PutUp_r99_0, fun x => f x.1 x.2.1 x.2.2.1 x.2.2.2.1⟩)
noncomputable def F_s_PutUp_r99_0 : Fn := (D_s_PutUp_r99_0 P_s_PutUp_r99_0).2
theorem E_s_PutUp_r99_0 (f_s_StoreOk : Y_s_StoreOk) (f_s_l14Copy : Y_s_l14Copy) (f_s_l11Id : Y_s_l11Id) (f_s_l1In : Y_s_l1In) (f_s_l14At : Y_s_l14At) (f_s_l14Left : Y_s_l14Left) (f_s_l14Write_r0_4 : Y_s_l14Write_r0_4) : ∀ x, (mkFn cfg [D_s_StoreOk f_s_StoreOk, D_s_l14Copy f_s_l14Copy, D_s_l11Id f_s_l11Id, D_s_l1In f_s_l1In, D_s_l14At f_s_l14At, D_s_l14Left f_s_l14Left, D_s_l14Write_r0_4 f_s_l14Write_r0_4] A_s_PutUp_r99_0 101 [.cell 8 36, .tmp 9] (Try.f40.body.getD .skip) p_s_PutUp_r99_0 r_s_PutUp_r99_0).fn x = B_s_PutUp_r99_0 f_s_StoreOk f_s_l14Copy f_s_l11Id f_s_l1In f_s_l14At f_s_l14Left f_s_l14Write_r0_4 x.1 x.2.1 x.2.2.1 x.2.2.2.1 := by intro x; kernel_rfl
theorem S_s_PutUp_r99_0 : Sound Try.prog 40 F_s_PutUp_r99_0 := sm MO cfg_ok (tc Try.call50 S_s_StoreOk (tc Try.call56 S_s_l14Copy (tc Try.call57 S_s_l11Id (tc Try.call58 S_s_l1In (tc Try.call59 S_s_l14At (tc Try.call60 S_s_l14Left (tc Try.call61 S_s_l14Write_r0_4 tab_nil))))))) Try.func40 (by kernel_rfl) (by decide) (E_s_PutUp_r99_0 P_s_StoreOk P_s_l14Copy P_s_l11Id P_s_l1In P_s_l14At P_s_l14Left P_s_l14Write_r0_4)
def A_s_DoneUp_r99_0 : Nat → Option Jn := lookN [(7, ⟨[], lt 13 8 [], false⟩)]
abbrev p_s_DoneUp_r99_0 : List PK := [.val true (.pair (.pair (.rs 9 .str) (.rs 9 .str)) (.pair (.int .i64) (.pair (.int .i64) (.rs 56 kUp)))) false, .val false .str false, .val false (.int .i64) false]
abbrev r_s_DoneUp_r99_0 : List RK := [.val true (.pair kDisk (.pair (.int .i64) (.pair (.int .i64) (.rs 56 kUp)))), .val false (.int .i64)]
noncomputable def D_s_DoneUp_r99_0 (f : Y_s_DoneUp_r99_0) : Nat × Fn := (29, ⟨p_s_DoneUp_r99_0, r_s_DoneUp_r99_0, fun x => f x.1 x.2.1 x.2.2.1⟩)
noncomputable def F_s_DoneUp_r99_0 : Fn := (D_s_DoneUp_r99_0 P_s_DoneUp_r99_0).2
theorem E_s_DoneUp_r99_0 (f_s_StoreOk : Y_s_StoreOk) (f_s_l14Copy : Y_s_l14Copy) (f_s_l11Id : Y_s_l11Id) (f_s_l14At : Y_s_l14At) (f_s_l14Left : Y_s_l14Left) (f_s_l14Write_r0_4 : Y_s_l14Write_r0_4) (f_s_Crc : Y_s_Crc) : ∀ x, (mkFn cfg [D_s_StoreOk f_s_StoreOk, D_s_l14Copy f_s_l14Copy, D_s_l11Id f_s_l11Id, D_s_l14At f_s_l14At, D_s_l14Left f_s_l14Left, D_s_l14Write_r0_4 f_s_l14Write_r0_4, D_s_Crc f_s_Crc] A_s_DoneUp_r99_0 62 [.cell 6 36, .tmp 7] (Try.f29.body.getD .skip) p_s_DoneUp_r99_0 r_s_DoneUp_r99_0).fn x = B_s_DoneUp_r99_0 f_s_StoreOk f_s_l14Copy f_s_l11Id f_s_l14At f_s_l14Left f_s_l14Write_r0_4 f_s_Crc x.1 x.2.1 x.2.2.1 := by intro x; kernel_rfl
theorem S_s_DoneUp_r99_0 : Sound Try.prog 29 F_s_DoneUp_r99_0 := sm MO cfg_ok (tc Try.call50 S_s_StoreOk (tc Try.call56 S_s_l14Copy (tc Try.call57 S_s_l11Id (tc Try.call59 S_s_l14At (tc Try.call60 S_s_l14Left (tc Try.call61 S_s_l14Write_r0_4 (tc Try.call89 S_s_Crc tab_nil))))))) Try.func29 (by kernel_rfl) (by decide) (E_s_DoneUp_r99_0 P_s_StoreOk P_s_l14Copy P_s_l11Id P_s_l14At P_s_l14Left P_s_l14Write_r0_4 P_s_Crc)
def A_s_DropUp_r99_0 : Nat → Option Jn := lookN [(7, ⟨[], lt 26 4 (lt 19 6 (lt 9 9 [])), false⟩), (28, ⟨[.t 9 false [.bool]], lt 10 8 [], true⟩)]
abbrev p_s_DropUp_r99_0 : List PK := [.val true (.pair (.pair (.rs 9 .str) (.rs 9 .str)) (.pair (.int .i64) (.pair (.int .i64) (.rs 56 kUp)))) false, .val false .str false]
abbrev r_s_DropUp_r99_0 : List RK := [.val true (.pair kDisk (.pair (.int .i64) (.pair (.int .i64) (.rs 56 kUp)))), .val false (.int .i64)]
noncomputable def D_s_DropUp_r99_0 (f : Y_s_DropUp_r99_0) : Nat × Fn := (158, ⟨p_s_DropUp_r99_0, r_s_DropUp_r99_0, fun x => f x.1 x.2.1⟩)
noncomputable def F_s_DropUp_r99_0 : Fn := (D_s_DropUp_r99_0 P_s_DropUp_r99_0).2
theorem E_s_DropUp_r99_0 (f_s_StoreOk : Y_s_StoreOk) (f_s_l14Copy : Y_s_l14Copy) (f_s_l11Id : Y_s_l11Id) (f_s_l14At : Y_s_l14At) (f_s_l14Left : Y_s_l14Left) (f_s_l14Write_r0_4 : Y_s_l14Write_r0_4) : ∀ x, (mkFn cfg [D_s_StoreOk f_s_StoreOk, D_s_l14Copy f_s_l14Copy, D_s_l11Id f_s_l11Id, D_s_l14At f_s_l14At, D_s_l14Left f_s_l14Left, D_s_l14Write_r0_4 f_s_l14Write_r0_4] A_s_DropUp_r99_0 35 [.cell 4 36, .tmp 5] (Try.f158.body.getD .skip) p_s_DropUp_r99_0 r_s_DropUp_r99_0).fn x = B_s_DropUp_r99_0 f_s_StoreOk f_s_l14Copy f_s_l11Id f_s_l14At f_s_l14Left f_s_l14Write_r0_4 x.1 x.2.1 := by intro x; kernel_rfl
theorem S_s_DropUp_r99_0 : Sound Try.prog 158 F_s_DropUp_r99_0 := sm MO cfg_ok (tc Try.call50 S_s_StoreOk (tc Try.call56 S_s_l14Copy (tc Try.call57 S_s_l11Id (tc Try.call59 S_s_l14At (tc Try.call60 S_s_l14Left (tc Try.call61 S_s_l14Write_r0_4 tab_nil)))))) Try.func158 (by kernel_rfl) (by decide) (E_s_DropUp_r99_0 P_s_StoreOk P_s_l14Copy P_s_l11Id P_s_l14At P_s_l14Left P_s_l14Write_r0_4)
def A_s_OpenStore_r99_0 : Nat → Option Jn := lookN [(63, ⟨[], lt 22 6 [], false⟩)]
abbrev p_s_OpenStore_r99_0 : List PK := [.val true (.pair (.rs 9 .str) (.rs 9 .str)) false]
abbrev r_s_OpenStore_r99_0 : List RK := [.val true (.pair kDisk (.pair (.int .i64) (.pair (.int .i64) (.rs 56 kUp)))), .val false .bool]
noncomputable def D_s_OpenStore_r99_0 (f : Y_s_OpenStore_r99_0) : Nat × Fn := (33, ⟨p_s_OpenStore_r99_0, r_s_OpenStore_r99_0, fun x => f x.1⟩)
noncomputable def F_s_OpenStore_r99_0 : Fn := (D_s_OpenStore_r99_0 P_s_OpenStore_r99_0).2
theorem E_s_OpenStore_r99_0 (f_s_DiskOk : Y_s_DiskOk) (f_s_ScanRecs : Y_s_ScanRecs) (f_s_FoldRecs_r99_0 : Y_s_FoldRecs_r99_0) (f_s_TopEpoch : Y_s_TopEpoch) (f_s_l12Copy : Y_s_l12Copy) : ∀ x, (mkFn cfg [D_s_DiskOk f_s_DiskOk, D_s_ScanRecs f_s_ScanRecs, D_s_FoldRecs_r99_0 f_s_FoldRecs_r99_0, D_s_TopEpoch f_s_TopEpoch, D_s_l12Copy f_s_l12Copy] A_s_OpenStore_r99_0 36 [.cell 2 36, .tmp 3] (Try.f33.body.getD .skip) p_s_OpenStore_r99_0 r_s_OpenStore_r99_0).fn x = B_s_OpenStore_r99_0 f_s_DiskOk f_s_ScanRecs f_s_FoldRecs_r99_0 f_s_TopEpoch f_s_l12Copy x.1 := by intro x; kernel_rfl
theorem S_s_OpenStore_r99_0 : Sound Try.prog 33 F_s_OpenStore_r99_0 := sm MO cfg_ok (tc Try.call97 S_s_DiskOk (tc Try.call98 S_s_ScanRecs (tc Try.call99 S_s_FoldRecs_r99_0 (tc Try.call100 S_s_TopEpoch (tc Try.call101 S_s_l12Copy tab_nil))))) Try.func33 (by kernel_rfl) (by decide) (E_s_OpenStore_r99_0 P_s_DiskOk P_s_ScanRecs P_s_FoldRecs_r99_0 P_s_TopEpoch P_s_l12Copy)
def A_s_l1New_r99_0 : Nat → Option Jn := lookN [(7, ⟨[.t 3 false [.int .i64]], lt 8 20 [.t 4], true⟩), (58, ⟨[.t 3 false [.int .i64], .t 4 false [.int .i64]], lt 8 20 [], false⟩), (116, ⟨[], lt 8 8 [], false⟩)]
abbrev p_s_l1New_r99_0 : List PK := [.val false (.rs 5 (.int .u8)) false]
abbrev r_s_l1New_r99_0 : List RK := [.new (.pair (.rs 5 (.int .u8)) kResp)]
noncomputable def D_s_l1New_r99_0 (f : Y_s_l1New) : Nat × Fn := (72, ⟨p_s_l1New_r99_0, r_s_l1New_r99_0, fun x => f x.1⟩)
noncomputable def F_s_l1New_r99_0 : Fn := (D_s_l1New_r99_0 P_s_l1New).2
theorem E_s_l1New_r99_0 : ∀ x, (mkFn cfg [] A_s_l1New_r99_0 32 [.tmp 2] (Try.f72.body.getD .skip) p_s_l1New_r99_0 r_s_l1New_r99_0).fn x = B_s_l1New x.1 := by intro x; kernel_rfl
theorem S_s_l1New_r99_0 : Sound Try.prog 72 F_s_l1New_r99_0 := sm MO cfg_ok tab_nil Try.func72 (by kernel_rfl) (by decide) (E_s_l1New_r99_0)
abbrev p_s_l1Byte_r0_0 : List PK := [.ptr (.pair (.rs 5 (.int .u8)) kResp)]
abbrev r_s_l1Byte_r0_0 : List RK := [.val false (.int .i64)]
noncomputable def D_s_l1Byte_r0_0 (f : Y_s_l1Byte) : Nat × Fn := (130, ⟨p_s_l1Byte_r0_0, r_s_l1Byte_r0_0, fun x => f x.1⟩)
noncomputable def F_s_l1Byte_r0_0 : Fn := (D_s_l1Byte_r0_0 P_s_l1Byte).2
theorem E_s_l1Byte_r0_0 : ∀ x, (mkFn cfg [] (lookN []) 58 [.tmp 2] (Try.f130.body.getD .skip) p_s_l1Byte_r0_0 r_s_l1Byte_r0_0).fn x = B_s_l1Byte x.1 := by intro x; kernel_rfl
theorem S_s_l1Byte_r0_0 : Sound Try.prog 130 F_s_l1Byte_r0_0 := sm MO cfg_ok tab_nil Try.func130 (by kernel_rfl) (by decide) (E_s_l1Byte_r0_0)
abbrev p_s_l1Below_r0_0 : List PK := [.ptr (.pair (.rs 5 (.int .u8)) kResp), .val false (.int .i64) false]
abbrev r_s_l1Below_r0_0 : List RK := [.val false (.int .i64)]
noncomputable def D_s_l1Below_r0_0 (f : Y_s_l1Below) : Nat × Fn := (77, ⟨p_s_l1Below_r0_0, r_s_l1Below_r0_0, fun x => f x.1 x.2.1⟩)
noncomputable def F_s_l1Below_r0_0 : Fn := (D_s_l1Below_r0_0 P_s_l1Below).2
theorem E_s_l1Below_r0_0 (f_s_l1Byte : Y_s_l1Byte) : ∀ x, (mkFn cfg [D_s_l1Byte_r0_0 f_s_l1Byte] (lookN []) 31 [.tmp 4] (Try.f77.body.getD .skip) p_s_l1Below_r0_0 r_s_l1Below_r0_0).fn x = B_s_l1Below f_s_l1Byte x.1 x.2.1 := by intro x; kernel_rfl
theorem S_s_l1Below_r0_0 : Sound Try.prog 77 F_s_l1Below_r0_0 := sm MO cfg_ok (tc Try.call130 S_s_l1Byte_r0_0 tab_nil) Try.func77 (by kernel_rfl) (by decide) (E_s_l1Below_r0_0 P_s_l1Byte)
abbrev p_s_l1Int_r0_0 : List PK := [.ptr (.pair (.rs 5 (.int .u8)) kResp), .val false (.rs 3 (.int .i64)) false]
abbrev r_s_l1Int_r0_0 : List RK := [.val false (.int .i64)]
noncomputable def D_s_l1Int_r0_0 (f : Y_s_l1Int) : Nat × Fn := (80, ⟨p_s_l1Int_r0_0, r_s_l1Int_r0_0, fun x => f x.1 x.2.1⟩)
noncomputable def F_s_l1Int_r0_0 : Fn := (D_s_l1Int_r0_0 P_s_l1Int).2
theorem E_s_l1Int_r0_0 (f_s_l1Below : Y_s_l1Below) : ∀ x, (mkFn cfg [D_s_l1Below_r0_0 f_s_l1Below] (lookN []) 12 [.tmp 4] (Try.f80.body.getD .skip) p_s_l1Int_r0_0 r_s_l1Int_r0_0).fn x = B_s_l1Int f_s_l1Below x.1 x.2.1 := by intro x; kernel_rfl
theorem S_s_l1Int_r0_0 : Sound Try.prog 80 F_s_l1Int_r0_0 := sm MO cfg_ok (tc Try.call77 S_s_l1Below_r0_0 tab_nil) Try.func80 (by kernel_rfl) (by decide) (E_s_l1Int_r0_0 P_s_l1Below)
abbrev p_s_l1Str_r0_0 : List PK := [.ptr (.pair (.rs 5 (.int .u8)) kResp), .val false (.rs 9 .str) false]
abbrev r_s_l1Str_r0_0 : List RK := [.val false .str]
noncomputable def D_s_l1Str_r0_0 (f : Y_s_l1Str) : Nat × Fn := (131, ⟨p_s_l1Str_r0_0, r_s_l1Str_r0_0, fun x => f x.1 x.2.1⟩)
noncomputable def F_s_l1Str_r0_0 : Fn := (D_s_l1Str_r0_0 P_s_l1Str).2
theorem E_s_l1Str_r0_0 (f_s_l1Below : Y_s_l1Below) : ∀ x, (mkFn cfg [D_s_l1Below_r0_0 f_s_l1Below] (lookN []) 12 [.tmp 4] (Try.f131.body.getD .skip) p_s_l1Str_r0_0 r_s_l1Str_r0_0).fn x = B_s_l1Str f_s_l1Below x.1 x.2.1 := by intro x; kernel_rfl
theorem S_s_l1Str_r0_0 : Sound Try.prog 131 F_s_l1Str_r0_0 := sm MO cfg_ok (tc Try.call77 S_s_l1Below_r0_0 tab_nil) Try.func131 (by kernel_rfl) (by decide) (E_s_l1Str_r0_0 P_s_l1Below)
abbrev p_s_l1Once_r0_0 : List PK := [.ptr (.pair (.rs 5 (.int .u8)) kResp), .val false (.int .i64) false]
abbrev r_s_l1Once_r0_0 : List RK := [.val false .bool]
noncomputable def D_s_l1Once_r0_0 (f : Y_s_l1Once) : Nat × Fn := (75, ⟨p_s_l1Once_r0_0, r_s_l1Once_r0_0, fun x => f x.1 x.2.1⟩)
noncomputable def F_s_l1Once_r0_0 : Fn := (D_s_l1Once_r0_0 P_s_l1Once).2
theorem E_s_l1Once_r0_0 (f_s_l1Below : Y_s_l1Below) : ∀ x, (mkFn cfg [D_s_l1Below_r0_0 f_s_l1Below] (lookN []) 9 [.tmp 4] (Try.f75.body.getD .skip) p_s_l1Once_r0_0 r_s_l1Once_r0_0).fn x = B_s_l1Once f_s_l1Below x.1 x.2.1 := by intro x; kernel_rfl
theorem S_s_l1Once_r0_0 : Sound Try.prog 75 F_s_l1Once_r0_0 := sm MO cfg_ok (tc Try.call77 S_s_l1Below_r0_0 tab_nil) Try.func75 (by kernel_rfl) (by decide) (E_s_l1Once_r0_0 P_s_l1Below)
def A_s_l1Bytes_r0_0 : Nat → Option Jn := lookN [(58, ⟨[.t 5 false [.own 100000000], .t 6 false [.int .i64], .b 1000 [.ro 5 (.int .u8), .int .i64, .int .i64], .r 100000000 5 (.int .u8)], lt 8 11 [.r 7, .r 17, .r 18], false⟩)]
abbrev p_s_l1Bytes_r0_0 : List PK := [.ptr (.pair (.rs 5 (.int .u8)) kResp), .val false (.int .i64) false]
abbrev r_s_l1Bytes_r0_0 : List RK := [.val false (.sl 5 (.int .u8))]
noncomputable def D_s_l1Bytes_r0_0 (f : Y_s_l1Bytes_r0_0) : Nat × Fn := (105, ⟨p_s_l1Bytes_r0_0, r_s_l1Bytes_r0_0, fun x => f x.1 x.2.1⟩)
noncomputable def F_s_l1Bytes_r0_0 : Fn := (D_s_l1Bytes_r0_0 P_s_l1Bytes_r0_0).2
theorem E_s_l1Bytes_r0_0 (f_s_l1Byte : Y_s_l1Byte) : ∀ x, (mkFn cfg [D_s_l1Byte_r0_0 f_s_l1Byte] A_s_l1Bytes_r0_0 20 [.tmp 4] (Try.f105.body.getD .skip) p_s_l1Bytes_r0_0 r_s_l1Bytes_r0_0).fn x = B_s_l1Bytes_r0_0 f_s_l1Byte x.1 x.2.1 := by intro x; kernel_rfl
theorem S_s_l1Bytes_r0_0 : Sound Try.prog 105 F_s_l1Bytes_r0_0 := sm MO cfg_ok (tc Try.call130 S_s_l1Byte_r0_0 tab_nil) Try.func105 (by kernel_rfl) (by decide) (E_s_l1Bytes_r0_0 P_s_l1Byte)
def A_s_l12Kept_r0_0 : Nat → Option Jn := lookN [(58, ⟨[.t 3 false [.own 100000000], .t 4 false [.int .i64], .b 1000 [.ro 5 (.int .u8), .int .i64, .int .i64], .r 100000000 4 .bool], lt 8 9 [.r 5, .r 15, .r 16], false⟩)]
abbrev p_s_l12Kept_r0_0 : List PK := [.ptr (.pair (.rs 5 (.int .u8)) kResp)]
abbrev r_s_l12Kept_r0_0 : List RK := [.val false (.sl 4 .bool)]
noncomputable def D_s_l12Kept_r0_0 (f : Y_s_l12Kept_r0_0) : Nat × Fn := (95, ⟨p_s_l12Kept_r0_0, r_s_l12Kept_r0_0, fun x => f x.1⟩)
noncomputable def F_s_l12Kept_r0_0 : Fn := (D_s_l12Kept_r0_0 P_s_l12Kept_r0_0).2
theorem E_s_l12Kept_r0_0 (f_s_l1Once : Y_s_l1Once) (f_s_l1Below : Y_s_l1Below) : ∀ x, (mkFn cfg [D_s_l1Once_r0_0 f_s_l1Once, D_s_l1Below_r0_0 f_s_l1Below] A_s_l12Kept_r0_0 18 [.tmp 2] (Try.f95.body.getD .skip) p_s_l12Kept_r0_0 r_s_l12Kept_r0_0).fn x = B_s_l12Kept_r0_0 f_s_l1Once f_s_l1Below x.1 := by intro x; kernel_rfl
theorem S_s_l12Kept_r0_0 : Sound Try.prog 95 F_s_l12Kept_r0_0 := sm MO cfg_ok (tc Try.call75 S_s_l1Once_r0_0 (tc Try.call77 S_s_l1Below_r0_0 tab_nil)) Try.func95 (by kernel_rfl) (by decide) (E_s_l12Kept_r0_0 P_s_l1Once P_s_l1Below)
def A_s_l14Some_r0_0_r99_0 : Nat → Option Jn := lookN [(58, ⟨[.t 29 false [.bool]], [.t 30, .t 31], true⟩), (235, ⟨[.t 41 false [.bool]], lt 42 4 [], true⟩), (3771, ⟨[.t 8 false [.int .i64], .b 1000 [.ro 5 (.int .u8), .int .i64, .int .i64]], lt 55 22 [], true⟩), (15103, ⟨[.t 116 false [.bool]], [.t 117, .t 118], true⟩)]
abbrev p_s_l14Some_r0_0_r99_0 : List PK := [.ptr (.pair (.rs 5 (.int .u8)) kResp), .val true (.pair (.pair (.rs 9 .str) (.rs 9 .str)) (.pair (.int .i64) (.pair (.int .i64) (.rs 56 kUp)))) false]
abbrev r_s_l14Some_r0_0_r99_0 : List RK := [.val true (.pair (.pair (.rs 9 .str) (.rs 9 .str)) (.pair (.int .i64) (.pair (.int .i64) (.rs 56 kUp))))]
noncomputable def D_s_l14Some_r0_0_r99_0 (f : Y_s_l14Some_r0_0_r99_0) : Nat × Fn := (138, ⟨p_s_l14Some_r0_0_r99_0, r_s_l14Some_r0_0_r99_0, fun x => f x.1 x.2.1⟩)
noncomputable def F_s_l14Some_r0_0_r99_0 : Fn := (D_s_l14Some_r0_0_r99_0 P_s_l14Some_r0_0_r99_0).2
theorem E_s_l14Some_r0_0_r99_0 (f_s_MakeUp_r99_0 : Y_s_MakeUp_r99_0) (f_s_DoneUp_r99_0 : Y_s_DoneUp_r99_0) (f_s_OpenStore_r99_0 : Y_s_OpenStore_r99_0) (f_s_PutUp_r99_0 : Y_s_PutUp_r99_0) (f_s_l1Once : Y_s_l1Once) (f_s_l1Below : Y_s_l1Below) (f_s_l1Int : Y_s_l1Int) (f_s_Crc : Y_s_Crc) (f_s_FallDisk : Y_s_FallDisk) (f_s_l12Kept_r0_0 : Y_s_l12Kept_r0_0) (f_s_UpAt : Y_s_UpAt) (f_s_l1Bytes_r0_0 : Y_s_l1Bytes_r0_0) (f_s_l1Str : Y_s_l1Str) (f_s_DropUp_r99_0 : Y_s_DropUp_r99_0) (f_s_SyncStore : Y_s_SyncStore) : ∀ x, (mkFn cfg [D_s_MakeUp_r99_0 f_s_MakeUp_r99_0, D_s_DoneUp_r99_0 f_s_DoneUp_r99_0, D_s_OpenStore_r99_0 f_s_OpenStore_r99_0, D_s_PutUp_r99_0 f_s_PutUp_r99_0, D_s_l1Once_r0_0 f_s_l1Once, D_s_l1Below_r0_0 f_s_l1Below, D_s_l1Int_r0_0 f_s_l1Int, D_s_Crc f_s_Crc, D_s_FallDisk f_s_FallDisk, D_s_l12Kept_r0_0 f_s_l12Kept_r0_0, D_s_UpAt f_s_UpAt, D_s_l1Bytes_r0_0 f_s_l1Bytes_r0_0, D_s_l1Str_r0_0 f_s_l1Str, D_s_DropUp_r99_0 f_s_DropUp_r99_0, D_s_SyncStore f_s_SyncStore] A_s_l14Some_r0_0_r99_0 122 [.cell 4 36] (Try.f138.body.getD .skip) p_s_l14Some_r0_0_r99_0 r_s_l14Some_r0_0_r99_0).fn x = B_s_l14Some_r0_0_r99_0 f_s_MakeUp_r99_0 f_s_DoneUp_r99_0 f_s_OpenStore_r99_0 f_s_PutUp_r99_0 f_s_l1Once f_s_l1Below f_s_l1Int f_s_Crc f_s_FallDisk f_s_l12Kept_r0_0 f_s_UpAt f_s_l1Bytes_r0_0 f_s_l1Str f_s_DropUp_r99_0 f_s_SyncStore x.1 x.2.1 := by intro x; kernel_rfl
theorem S_s_l14Some_r0_0_r99_0 : Sound Try.prog 138 F_s_l14Some_r0_0_r99_0 := sm MO cfg_ok (tc Try.call17 S_s_MakeUp_r99_0 (tc Try.call29 S_s_DoneUp_r99_0 (tc Try.call33 S_s_OpenStore_r99_0 (tc Try.call40 S_s_PutUp_r99_0 (tc Try.call75 S_s_l1Once_r0_0 (tc Try.call77 S_s_l1Below_r0_0 (tc Try.call80 S_s_l1Int_r0_0 (tc Try.call89 S_s_Crc (tc Try.call94 S_s_FallDisk (tc Try.call95 S_s_l12Kept_r0_0 (tc Try.call104 S_s_UpAt (tc Try.call105 S_s_l1Bytes_r0_0 (tc Try.call131 S_s_l1Str_r0_0 (tc Try.call158 S_s_DropUp_r99_0 (tc Try.call159 S_s_SyncStore tab_nil))))))))))))))) Try.func138 (by kernel_rfl) (by decide) (E_s_l14Some_r0_0_r99_0 P_s_MakeUp_r99_0 P_s_DoneUp_r99_0 P_s_OpenStore_r99_0 P_s_PutUp_r99_0 P_s_l1Once P_s_l1Below P_s_l1Int P_s_Crc P_s_FallDisk P_s_l12Kept_r0_0 P_s_UpAt P_s_l1Bytes_r0_0 P_s_l1Str P_s_DropUp_r99_0 P_s_SyncStore)
def A_s_l14Draw_r0_0_r99_0 : Nat → Option Jn := lookN [(58, ⟨[.t 6 false [.int .i64], .b 5 [.ro 9 .str, .ro 9 .str, .int .i64, .int .i64, .ro 56 kUp], .b 1000 [.ro 5 (.int .u8), .int .i64, .int .i64]], lt 14 7 [.r 45056, .r 45057, .r 45060, .t 10], false⟩)]
abbrev p_s_l14Draw_r0_0_r99_0 : List PK := [.ptr (.pair (.rs 5 (.int .u8)) kResp), .val false (.int .i64) false]
abbrev r_s_l14Draw_r0_0_r99_0 : List RK := [.val true (.pair (.pair (.rs 9 .str) (.rs 9 .str)) (.pair (.int .i64) (.pair (.int .i64) (.rs 56 kUp))))]
noncomputable def D_s_l14Draw_r0_0_r99_0 (f : Y_s_l14Draw_r0_0_r99_0) : Nat × Fn := (93, ⟨p_s_l14Draw_r0_0_r99_0, r_s_l14Draw_r0_0_r99_0, fun x => f x.1 x.2.1⟩)
noncomputable def F_s_l14Draw_r0_0_r99_0 : Fn := (D_s_l14Draw_r0_0_r99_0 P_s_l14Draw_r0_0_r99_0).2
theorem E_s_l14Draw_r0_0_r99_0 (f_s_StoreNew : Y_s_StoreNew) (f_s_l1Below : Y_s_l1Below) (f_s_l1Int : Y_s_l1Int) (f_s_l14Some_r0_0_r99_0 : Y_s_l14Some_r0_0_r99_0) : ∀ x, (mkFn cfg [D_s_StoreNew f_s_StoreNew, D_s_l1Below_r0_0 f_s_l1Below, D_s_l1Int_r0_0 f_s_l1Int, D_s_l14Some_r0_0_r99_0 f_s_l14Some_r0_0_r99_0] A_s_l14Draw_r0_0_r99_0 22 [.cell 4 36] (Try.f93.body.getD .skip) p_s_l14Draw_r0_0_r99_0 r_s_l14Draw_r0_0_r99_0).fn x = B_s_l14Draw_r0_0_r99_0 f_s_StoreNew f_s_l1Below f_s_l1Int f_s_l14Some_r0_0_r99_0 x.1 x.2.1 := by intro x; kernel_rfl
theorem S_s_l14Draw_r0_0_r99_0 : Sound Try.prog 93 F_s_l14Draw_r0_0_r99_0 := sm MO cfg_ok (tc Try.call76 S_s_StoreNew (tc Try.call77 S_s_l1Below_r0_0 (tc Try.call80 S_s_l1Int_r0_0 (tc Try.call138 S_s_l14Some_r0_0_r99_0 tab_nil)))) Try.func93 (by kernel_rfl) (by decide) (E_s_l14Draw_r0_0_r99_0 P_s_StoreNew P_s_l1Below P_s_l1Int P_s_l14Some_r0_0_r99_0)
end Go.Proofs.Ytehbegmomfcmhaa.Ev
