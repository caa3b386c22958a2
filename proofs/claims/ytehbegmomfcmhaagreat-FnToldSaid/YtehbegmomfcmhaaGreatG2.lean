/- Each function of the program does what its plain function says. -/
import Derived.Test.YtehbegmomfcmhaaGreatG1
set_option linter.unusedVariables false
set_option maxRecDepth 100000
namespace Go.Proofs.YtehbegmomfcmhaaGreat.Ev
abbrev p_i_GetRec : List PK := [.val false .str false]
abbrev r_i_GetRec : List RK := [.val true kRec, .val false .bool]
noncomputable def D_i_GetRec (f : Y_i_GetRec) : Nat × Fn := (137, ⟨p_i_GetRec, r_i_GetRec, fun x => f x.1⟩)
noncomputable def F_i_GetRec : Fn := (D_i_GetRec P_i_GetRec).2
theorem E_i_GetRec (f_i_byteReader_number : Y_i_byteReader_number) (f_i_byteReader_take : Y_i_byteReader_take) (f_i_RecOk : Y_i_RecOk) (f_i_PutRec : Y_i_PutRec) : ∀ x, (mkFn cfg [D_i_byteReader_number f_i_byteReader_number, D_i_byteReader_take f_i_byteReader_take, D_i_RecOk f_i_RecOk, D_i_PutRec f_i_PutRec] (lookN []) 42 [.cell 2 139, .tmp 3] (Tryz.f137.body.getD .skip) p_i_GetRec r_i_GetRec).fn x = B_i_GetRec f_i_byteReader_number f_i_byteReader_take f_i_RecOk f_i_PutRec x.1 := by intro x; kernel_rfl
theorem S_i_GetRec : Sound Tryz.prog 137 F_i_GetRec := sm MO cfg_ok (tc Tryz.call171 S_i_byteReader_number (tc Tryz.call172 S_i_byteReader_take (tc Tryz.call173 S_i_RecOk (tc Tryz.call174 S_i_PutRec tab_nil)))) Tryz.func137 (by kernel_rfl) (by decide) (E_i_GetRec P_i_byteReader_number P_i_byteReader_take P_i_RecOk P_i_PutRec)
def A_i_ScanRecs : Nat → Option Jn := lookN [(122, ⟨[.t 3 false [.own 100000000], .t 4 false [.int .i64], .t 12 false [.int .i64], .r 100000000 139 kRec], lt 13 30 (lt 5 4 [.b 7, .r 38, .r 39, .r 81925]), false⟩)]
abbrev p_i_ScanRecs : List PK := [.val true (.pair (.rs 9 .str) (.rs 9 .str)) false]
abbrev r_i_ScanRecs : List RK := [.val false (.sl 139 kRec)]
noncomputable def D_i_ScanRecs (f : Y_i_ScanRecs) : Nat × Fn := (87, ⟨p_i_ScanRecs, r_i_ScanRecs, fun x => f x.1⟩)
noncomputable def F_i_ScanRecs : Fn := (D_i_ScanRecs P_i_ScanRecs).2
theorem E_i_ScanRecs (f_i_GetRec : Y_i_GetRec) : ∀ x, (mkFn cfg [D_i_GetRec f_i_GetRec] A_i_ScanRecs 44 [.tmp 2] (Tryz.f87.body.getD .skip) p_i_ScanRecs r_i_ScanRecs).fn x = B_i_ScanRecs f_i_GetRec x.1 := by intro x; kernel_rfl
theorem S_i_ScanRecs : Sound Tryz.prog 87 F_i_ScanRecs := sm MO cfg_ok (tc Tryz.call137 S_i_GetRec tab_nil) Tryz.func87 (by kernel_rfl) (by decide) (E_i_ScanRecs P_i_GetRec)
def A_i_upAt : Nat → Option Jn := lookN [(7, ⟨[.t 6 false [.int .i64]], lt 7 15 [], true⟩), (28, ⟨[.t 6 false [.int .i64]], lt 7 15 [], false⟩)]
abbrev p_i_upAt : List PK := [.val false (.rs 89 kUp) false, .val false .str false]
abbrev r_i_upAt : List RK := [.val false (.int .i64), .val false .bool]
noncomputable def D_i_upAt (f : Y_i_upAt) : Nat × Fn := (175, ⟨p_i_upAt, r_i_upAt, fun x => f x.1 x.2.1⟩)
noncomputable def F_i_upAt : Fn := (D_i_upAt P_i_upAt).2
theorem E_i_upAt : ∀ x, (mkFn cfg [] A_i_upAt 36 [.tmp 4, .tmp 5] (Tryz.f175.body.getD .skip) p_i_upAt r_i_upAt).fn x = B_i_upAt x.1 x.2.1 := by intro x; kernel_rfl
theorem S_i_upAt : Sound Tryz.prog 175 F_i_upAt := sm MO cfg_ok tab_nil Tryz.func175 (by kernel_rfl) (by decide) (E_i_upAt)
def A_i_fold : Nat → Option Jn := lookN [(58, ⟨[], lt 19 6 [], false⟩), (2026, ⟨[], lt 43 30 [], false⟩)]
abbrev p_i_fold : List PK := [.val false (.sl 89 kUp) false, .val true (.pair (.int .i64) (.pair (.int .i64) (.pair (.int .i64) (.pair .str (.pair (.int .i64) (.rs 5 (.int .u8))))))) false]
abbrev r_i_fold : List RK := [.val false (.sl 89 kUp), .val false .bool]
noncomputable def D_i_fold (f : Y_i_fold) : Nat × Fn := (138, ⟨p_i_fold, r_i_fold, fun x => f x.1 x.2.1⟩)
noncomputable def F_i_fold : Fn := (D_i_fold P_i_fold).2
theorem E_i_fold (f_i_upAt : Y_i_upAt) (f_slices_Insert_impl_Up_impl_Up : Y_slices_Insert_impl_Up_impl_Up) (f_slices_Delete_impl_Up_impl_Up : Y_slices_Delete_impl_Up_impl_Up) : ∀ x, (mkFn cfg [D_i_upAt f_i_upAt, D_slices_Insert_impl_Up_impl_Up f_slices_Insert_impl_Up_impl_Up, D_slices_Delete_impl_Up_impl_Up f_slices_Delete_impl_Up_impl_Up] A_i_fold 113 [.tmp 4, .tmp 5] (Tryz.f138.body.getD .skip) p_i_fold r_i_fold).fn x = B_i_fold f_i_upAt f_slices_Insert_impl_Up_impl_Up f_slices_Delete_impl_Up_impl_Up x.1 x.2.1 := by intro x; kernel_rfl
theorem S_i_fold : Sound Tryz.prog 138 F_i_fold := sm MO cfg_ok (tc Tryz.call175 S_i_upAt (tc Tryz.call176 S_slices_Insert_impl_Up_impl_Up (tc Tryz.call177 S_slices_Delete_impl_Up_impl_Up tab_nil))) Tryz.func138 (by kernel_rfl) (by decide) (E_i_fold P_i_upAt P_slices_Insert_impl_Up_impl_Up P_slices_Delete_impl_Up_impl_Up)
def A_i_FoldRecs : Nat → Option Jn := lookN [(7, ⟨[.t 4 false [.own 100000000], .r 100000000 89 kUp], lt 6 19 [.b 6, .r 77824], false⟩), (58, ⟨[.t 4 false [.own 100000000], .t 11 false [.int .i64], .r 100000000 89 kUp], lt 12 13 (lt 6 3 [.b 6, .r 77824]), false⟩)]
abbrev p_i_FoldRecs : List PK := [.val false (.rs 139 kRec) false]
abbrev r_i_FoldRecs : List RK := [.val false (.sl 89 kUp), .val false .bool]
noncomputable def D_i_FoldRecs (f : Y_i_FoldRecs) : Nat × Fn := (88, ⟨p_i_FoldRecs, r_i_FoldRecs, fun x => f x.1⟩)
noncomputable def F_i_FoldRecs : Fn := (D_i_FoldRecs P_i_FoldRecs).2
theorem E_i_FoldRecs (f_i_fold : Y_i_fold) : ∀ x, (mkFn cfg [D_i_fold f_i_fold] A_i_FoldRecs 26 [.tmp 2, .tmp 3] (Tryz.f88.body.getD .skip) p_i_FoldRecs r_i_FoldRecs).fn x = B_i_FoldRecs f_i_fold x.1 := by intro x; kernel_rfl
theorem S_i_FoldRecs : Sound Tryz.prog 88 F_i_FoldRecs := sm MO cfg_ok (tc Tryz.call138 S_i_fold tab_nil) Tryz.func88 (by kernel_rfl) (by decide) (E_i_FoldRecs P_i_fold)
def A_i_topFrom : Nat → Option Jn := lookN [(58, ⟨[.t 3 false [.int .i64], .t 10 false [.int .i64]], lt 11 14 (lt 5 3 [.b 6, .r 69637]), false⟩)]
abbrev p_i_topFrom : List PK := [.val false (.rs 9 .str) false]
abbrev r_i_topFrom : List RK := [.val false (.int .i64)]
noncomputable def D_i_topFrom (f : Y_i_topFrom) : Nat × Fn := (91, ⟨p_i_topFrom, r_i_topFrom, fun x => f x.1⟩)
noncomputable def F_i_topFrom : Fn := (D_i_topFrom P_i_topFrom).2
theorem E_i_topFrom (f_i_GetRec : Y_i_GetRec) : ∀ x, (mkFn cfg [D_i_GetRec f_i_GetRec] A_i_topFrom 26 [.tmp 2] (Tryz.f91.body.getD .skip) p_i_topFrom r_i_topFrom).fn x = B_i_topFrom f_i_GetRec x.1 := by intro x; kernel_rfl
theorem S_i_topFrom : Sound Tryz.prog 91 F_i_topFrom := sm MO cfg_ok (tc Tryz.call137 S_i_GetRec tab_nil) Tryz.func91 (by kernel_rfl) (by decide) (E_i_topFrom P_i_GetRec)
abbrev p_bytes_Equal : List PK := [.val false (.rs 5 (.int .u8)) false, .val false (.rs 5 (.int .u8)) false]
abbrev r_bytes_Equal : List RK := [.val false .bool]
noncomputable def D_bytes_Equal (f : Y_bytes_Equal) : Nat × Fn := (139, ⟨p_bytes_Equal, r_bytes_Equal, fun x => f x.1 x.2.1⟩)
noncomputable def F_bytes_Equal : Fn := (D_bytes_Equal P_bytes_Equal).2
theorem E_bytes_Equal : ∀ x, (mkFn cfg [] (lookN []) 10 [.tmp 4] (Tryz.f139.body.getD .skip) p_bytes_Equal r_bytes_Equal).fn x = B_bytes_Equal x.1 x.2.1 := by intro x; kernel_rfl
theorem S_bytes_Equal : Sound Tryz.prog 139 F_bytes_Equal := sm MO cfg_ok tab_nil Tryz.func139 (by kernel_rfl) (by decide) (E_bytes_Equal)
abbrev p_i_sameUp : List PK := [.val true (.pair .str (.pair (.int .i64) (.pair (.rs 5 (.int .u8)) .bool))) false, .val true (.pair .str (.pair (.int .i64) (.pair (.rs 5 (.int .u8)) .bool))) false]
abbrev r_i_sameUp : List RK := [.val false .bool]
noncomputable def D_i_sameUp (f : Y_i_sameUp) : Nat × Fn := (90, ⟨p_i_sameUp, r_i_sameUp, fun x => f x.1 x.2.1⟩)
noncomputable def F_i_sameUp : Fn := (D_i_sameUp P_i_sameUp).2
theorem E_i_sameUp (f_bytes_Equal : Y_bytes_Equal) : ∀ x, (mkFn cfg [D_bytes_Equal f_bytes_Equal] (lookN []) 31 [.tmp 4] (Tryz.f90.body.getD .skip) p_i_sameUp r_i_sameUp).fn x = B_i_sameUp f_bytes_Equal x.1 x.2.1 := by intro x; kernel_rfl
theorem S_i_sameUp : Sound Tryz.prog 90 F_i_sameUp := sm MO cfg_ok (tc Tryz.call139 S_bytes_Equal tab_nil) Tryz.func90 (by kernel_rfl) (by decide) (E_i_sameUp P_bytes_Equal)
def A_slices_EqualFunc_impl_Up_impl_Up_impl_Up_impl_Up_r1002_90 : Nat → Option Jn := lookN [(58, ⟨[.t 17 false [.int .i64]], lt 18 14 (lt 7 3 [.b 8, .b 9]), false⟩)]
abbrev p_slices_EqualFunc_impl_Up_impl_Up_impl_Up_impl_Up_r1002_90 : List PK := [.val false (.rs 89 kUp) false, .val false (.rs 89 kUp) false, .val false (.fnc 90) false]
abbrev r_slices_EqualFunc_impl_Up_impl_Up_impl_Up_impl_Up_r1002_90 : List RK := [.val false .bool]
noncomputable def D_slices_EqualFunc_impl_Up_impl_Up_impl_Up_impl_Up_r1002_90 (f : Y_slices_EqualFunc_impl_Up_impl_Up_impl_Up_impl_Up_r1002_90) : Nat × Fn := (89, ⟨p_slices_EqualFunc_impl_Up_impl_Up_impl_Up_impl_Up_r1002_90, r_slices_EqualFunc_impl_Up_impl_Up_impl_Up_impl_Up_r1002_90, fun x => f x.1 x.2.1 x.2.2.1⟩)
noncomputable def F_slices_EqualFunc_impl_Up_impl_Up_impl_Up_impl_Up_r1002_90 : Fn := (D_slices_EqualFunc_impl_Up_impl_Up_impl_Up_impl_Up_r1002_90 P_slices_EqualFunc_impl_Up_impl_Up_impl_Up_impl_Up_r1002_90).2
theorem E_slices_EqualFunc_impl_Up_impl_Up_impl_Up_impl_Up_r1002_90 (f_i_sameUp : Y_i_sameUp) : ∀ x, (mkFn cfg [D_i_sameUp f_i_sameUp] A_slices_EqualFunc_impl_Up_impl_Up_impl_Up_impl_Up_r1002_90 32 [.tmp 6] (Tryz.f89.body.getD .skip) p_slices_EqualFunc_impl_Up_impl_Up_impl_Up_impl_Up_r1002_90 r_slices_EqualFunc_impl_Up_impl_Up_impl_Up_impl_Up_r1002_90).fn x = B_slices_EqualFunc_impl_Up_impl_Up_impl_Up_impl_Up_r1002_90 f_i_sameUp x.1 x.2.1 x.2.2.1 := by intro x; kernel_rfl
theorem S_slices_EqualFunc_impl_Up_impl_Up_impl_Up_impl_Up_r1002_90 : Sound Tryz.prog 89 F_slices_EqualFunc_impl_Up_impl_Up_impl_Up_impl_Up_r1002_90 := sm MO cfg_ok (tc Tryz.call90 S_i_sameUp tab_nil) Tryz.func89 (by kernel_rfl) (by decide) (E_slices_EqualFunc_impl_Up_impl_Up_impl_Up_impl_Up_r1002_90 P_i_sameUp)
def A_i_StoreOk : Nat → Option Jn := lookN [(3, ⟨[], lt 6 10 [], false⟩), (31, ⟨[], lt 24 16 [], false⟩), (63, ⟨[], lt 40 15 [.x 50], false⟩)]
abbrev p_i_StoreOk : List PK := [.val true (.pair (.pair (.rs 9 .str) (.rs 9 .str)) (.pair (.int .i64) (.pair (.int .i64) (.rs 89 kUp)))) false]
abbrev r_i_StoreOk : List RK := [.val false .bool]
noncomputable def D_i_StoreOk (f : Y_i_StoreOk) : Nat × Fn := (41, ⟨p_i_StoreOk, r_i_StoreOk, fun x => f x.1⟩)
noncomputable def F_i_StoreOk : Fn := (D_i_StoreOk P_i_StoreOk).2
theorem E_i_StoreOk (f_i_isEpoch : Y_i_isEpoch) (f_i_DiskOk : Y_i_DiskOk) (f_i_ScanRecs : Y_i_ScanRecs) (f_i_FoldRecs : Y_i_FoldRecs) (f_slices_EqualFunc_impl_Up_impl_Up_impl_Up_impl_Up_r1002_90 : Y_slices_EqualFunc_impl_Up_impl_Up_impl_Up_impl_Up_r1002_90) (f_i_topFrom : Y_i_topFrom) : ∀ x, (mkFn cfg [D_i_isEpoch f_i_isEpoch, D_i_DiskOk f_i_DiskOk, D_i_ScanRecs f_i_ScanRecs, D_i_FoldRecs f_i_FoldRecs, D_slices_EqualFunc_impl_Up_impl_Up_impl_Up_impl_Up_r1002_90 f_slices_EqualFunc_impl_Up_impl_Up_impl_Up_impl_Up_r1002_90, D_i_topFrom f_i_topFrom] A_i_StoreOk 65 [.tmp 2] (Tryz.f41.body.getD .skip) p_i_StoreOk r_i_StoreOk).fn x = B_i_StoreOk f_i_isEpoch f_i_DiskOk f_i_ScanRecs f_i_FoldRecs f_slices_EqualFunc_impl_Up_impl_Up_impl_Up_impl_Up_r1002_90 f_i_topFrom x.1 := by intro x; kernel_rfl
theorem S_i_StoreOk : Sound Tryz.prog 41 F_i_StoreOk := sm MO cfg_ok (tc Tryz.call85 S_i_isEpoch (tc Tryz.call86 S_i_DiskOk (tc Tryz.call87 S_i_ScanRecs (tc Tryz.call88 S_i_FoldRecs (tc Tryz.call89 S_slices_EqualFunc_impl_Up_impl_Up_impl_Up_impl_Up_r1002_90 (tc Tryz.call91 S_i_topFrom tab_nil)))))) Tryz.func41 (by kernel_rfl) (by decide) (E_i_StoreOk P_i_isEpoch P_i_DiskOk P_i_ScanRecs P_i_FoldRecs P_slices_EqualFunc_impl_Up_impl_Up_impl_Up_impl_Up_r1002_90 P_i_topFrom)
def A_i_ServerOk : Nat → Option Jn := lookN [(3, ⟨[], lt 4 13 [.b 4], false⟩), (26, ⟨[.t 8 false [.int .i64]], lt 9 8 [.b 4, .t 4], false⟩)]
abbrev p_i_ServerOk : List PK := [.val true (.pair (.pair (.pair (.rs 9 .str) (.rs 9 .str)) (.pair (.int .i64) (.pair (.int .i64) (.rs 89 kUp)))) (.rs 85 kHeld)) false]
abbrev r_i_ServerOk : List RK := [.val false .bool]
noncomputable def D_i_ServerOk (f : Y_i_ServerOk) : Nat × Fn := (13, ⟨p_i_ServerOk, r_i_ServerOk, fun x => f x.1⟩)
noncomputable def F_i_ServerOk : Fn := (D_i_ServerOk P_i_ServerOk).2
theorem E_i_ServerOk (f_i_RespOk : Y_i_RespOk) (f_i_StoreOk : Y_i_StoreOk) : ∀ x, (mkFn cfg [D_i_RespOk f_i_RespOk, D_i_StoreOk f_i_StoreOk] A_i_ServerOk 26 [.tmp 2] (Tryz.f13.body.getD .skip) p_i_ServerOk r_i_ServerOk).fn x = B_i_ServerOk f_i_RespOk f_i_StoreOk x.1 := by intro x; kernel_rfl
theorem S_i_ServerOk : Sound Tryz.prog 13 F_i_ServerOk := sm MO cfg_ok (tc Tryz.call40 S_i_RespOk (tc Tryz.call41 S_i_StoreOk tab_nil)) Tryz.func13 (by kernel_rfl) (by decide) (E_i_ServerOk P_i_RespOk P_i_StoreOk)
abbrev p_slices_Clone_string_string : List PK := [.val false (.rs 9 .str) false]
abbrev r_slices_Clone_string_string : List RK := [.val false (.sl 9 .str)]
noncomputable def D_slices_Clone_string_string (f : Y_slices_Clone_string_string) : Nat × Fn := (135, ⟨p_slices_Clone_string_string, r_slices_Clone_string_string, fun x => f x.1⟩)
noncomputable def F_slices_Clone_string_string : Fn := (D_slices_Clone_string_string P_slices_Clone_string_string).2
theorem E_slices_Clone_string_string : ∀ x, (mkFn cfg [] (lookN []) 8 [.tmp 2] (Tryz.f135.body.getD .skip) p_slices_Clone_string_string r_slices_Clone_string_string).fn x = B_slices_Clone_string_string x.1 := by intro x; kernel_rfl
theorem S_slices_Clone_string_string : Sound Tryz.prog 135 F_slices_Clone_string_string := sm MO cfg_ok tab_nil Tryz.func135 (by kernel_rfl) (by decide) (E_slices_Clone_string_string)
abbrev p_i_copyDisk : List PK := [.val true (.pair (.rs 9 .str) (.rs 9 .str)) false]
abbrev r_i_copyDisk : List RK := [.val true kDisk]
noncomputable def D_i_copyDisk (f : Y_i_copyDisk) : Nat × Fn := (133, ⟨p_i_copyDisk, r_i_copyDisk, fun x => f x.1⟩)
noncomputable def F_i_copyDisk : Fn := (D_i_copyDisk P_i_copyDisk).2
theorem E_i_copyDisk (f_slices_Clone_string_string : Y_slices_Clone_string_string) : ∀ x, (mkFn cfg [D_slices_Clone_string_string f_slices_Clone_string_string] (lookN []) 10 [.cell 2 26] (Tryz.f133.body.getD .skip) p_i_copyDisk r_i_copyDisk).fn x = B_i_copyDisk f_slices_Clone_string_string x.1 := by intro x; kernel_rfl
theorem S_i_copyDisk : Sound Tryz.prog 133 F_i_copyDisk := sm MO cfg_ok (tc Tryz.call135 S_slices_Clone_string_string tab_nil) Tryz.func133 (by kernel_rfl) (by decide) (E_i_copyDisk P_slices_Clone_string_string)
abbrev p_i_copyUp : List PK := [.val true (.pair .str (.pair (.int .i64) (.pair (.rs 5 (.int .u8)) .bool))) false]
abbrev r_i_copyUp : List RK := [.val true kUp]
noncomputable def D_i_copyUp (f : Y_i_copyUp) : Nat × Fn := (134, ⟨p_i_copyUp, r_i_copyUp, fun x => f x.1⟩)
noncomputable def F_i_copyUp : Fn := (D_i_copyUp P_i_copyUp).2
theorem E_i_copyUp (f_slices_Clone_byte_byte : Y_slices_Clone_byte_byte) : ∀ x, (mkFn cfg [D_slices_Clone_byte_byte f_slices_Clone_byte_byte] (lookN []) 8 [.cell 2 89] (Tryz.f134.body.getD .skip) p_i_copyUp r_i_copyUp).fn x = B_i_copyUp f_slices_Clone_byte_byte x.1 := by intro x; kernel_rfl
theorem S_i_copyUp : Sound Tryz.prog 134 F_i_copyUp := sm MO cfg_ok (tc Tryz.call170 S_slices_Clone_byte_byte tab_nil) Tryz.func134 (by kernel_rfl) (by decide) (E_i_copyUp P_slices_Clone_byte_byte)
def A_i_copyStore : Nat → Option Jn := lookN [(58, ⟨[.t 17 false [.int .i64], .b 3 [.own 36864, .own 36865, .int .i64, .int .i64, .own 100000000], .r 36864 9 .str, .r 36865 9 .str, .r 100000000 89 kUp], lt 18 11 [.b 5, .r 25, .r 26, .r 102402, .t 5], false⟩)]
abbrev p_i_copyStore : List PK := [.val true (.pair (.pair (.rs 9 .str) (.rs 9 .str)) (.pair (.int .i64) (.pair (.int .i64) (.rs 89 kUp)))) false]
abbrev r_i_copyStore : List RK := [.val true kStore]
noncomputable def D_i_copyStore (f : Y_i_copyStore) : Nat × Fn := (80, ⟨p_i_copyStore, r_i_copyStore, fun x => f x.1⟩)
noncomputable def F_i_copyStore : Fn := (D_i_copyStore P_i_copyStore).2
theorem E_i_copyStore (f_i_copyDisk : Y_i_copyDisk) (f_i_copyUp : Y_i_copyUp) : ∀ x, (mkFn cfg [D_i_copyDisk f_i_copyDisk, D_i_copyUp f_i_copyUp] A_i_copyStore 30 [.cell 2 29] (Tryz.f80.body.getD .skip) p_i_copyStore r_i_copyStore).fn x = B_i_copyStore f_i_copyDisk f_i_copyUp x.1 := by intro x; kernel_rfl
theorem S_i_copyStore : Sound Tryz.prog 80 F_i_copyStore := sm MO cfg_ok (tc Tryz.call133 S_i_copyDisk (tc Tryz.call134 S_i_copyUp tab_nil)) Tryz.func80 (by kernel_rfl) (by decide) (E_i_copyStore P_i_copyDisk P_i_copyUp)
abbrev p_slices_Clone_impl_Held_impl_Held : List PK := [.val false (.rs 85 kHeld) false]
abbrev r_slices_Clone_impl_Held_impl_Held : List RK := [.val false (.sl 85 kHeld)]
noncomputable def D_slices_Clone_impl_Held_impl_Held (f : Y_slices_Clone_impl_Held_impl_Held) : Nat × Fn := (81, ⟨p_slices_Clone_impl_Held_impl_Held, r_slices_Clone_impl_Held_impl_Held, fun x => f x.1⟩)
noncomputable def F_slices_Clone_impl_Held_impl_Held : Fn := (D_slices_Clone_impl_Held_impl_Held P_slices_Clone_impl_Held_impl_Held).2
theorem E_slices_Clone_impl_Held_impl_Held : ∀ x, (mkFn cfg [] (lookN []) 8 [.tmp 2] (Tryz.f81.body.getD .skip) p_slices_Clone_impl_Held_impl_Held r_slices_Clone_impl_Held_impl_Held).fn x = B_slices_Clone_impl_Held_impl_Held x.1 := by intro x; kernel_rfl
theorem S_slices_Clone_impl_Held_impl_Held : Sound Tryz.prog 81 F_slices_Clone_impl_Held_impl_Held := sm MO cfg_ok tab_nil Tryz.func81 (by kernel_rfl) (by decide) (E_slices_Clone_impl_Held_impl_Held)
abbrev p_i_copyServer : List PK := [.val true (.pair (.pair (.pair (.rs 9 .str) (.rs 9 .str)) (.pair (.int .i64) (.pair (.int .i64) (.rs 89 kUp)))) (.rs 85 kHeld)) false]
abbrev r_i_copyServer : List RK := [.val true kServer]
noncomputable def D_i_copyServer (f : Y_i_copyServer) : Nat × Fn := (36, ⟨p_i_copyServer, r_i_copyServer, fun x => f x.1⟩)
noncomputable def F_i_copyServer : Fn := (D_i_copyServer P_i_copyServer).2
theorem E_i_copyServer (f_i_copyStore : Y_i_copyStore) (f_slices_Clone_impl_Held_impl_Held : Y_slices_Clone_impl_Held_impl_Held) : ∀ x, (mkFn cfg [D_i_copyStore f_i_copyStore, D_slices_Clone_impl_Held_impl_Held f_slices_Clone_impl_Held_impl_Held] (lookN []) 10 [.cell 2 32] (Tryz.f36.body.getD .skip) p_i_copyServer r_i_copyServer).fn x = B_i_copyServer f_i_copyStore f_slices_Clone_impl_Held_impl_Held x.1 := by intro x; kernel_rfl
theorem S_i_copyServer : Sound Tryz.prog 36 F_i_copyServer := sm MO cfg_ok (tc Tryz.call80 S_i_copyStore (tc Tryz.call81 S_slices_Clone_impl_Held_impl_Held tab_nil)) Tryz.func36 (by kernel_rfl) (by decide) (E_i_copyServer P_i_copyStore P_slices_Clone_impl_Held_impl_Held)
abbrev p_i_FlushDisk : List PK := [.val true (.pair (.rs 9 .str) (.rs 9 .str)) false]
abbrev r_i_FlushDisk : List RK := [.val true kDisk]
noncomputable def D_i_FlushDisk (f : Y_i_FlushDisk) : Nat × Fn := (82, ⟨p_i_FlushDisk, r_i_FlushDisk, fun x => f x.1⟩)
noncomputable def F_i_FlushDisk : Fn := (D_i_FlushDisk P_i_FlushDisk).2
theorem E_i_FlushDisk (f_slices_Clone_string_string : Y_slices_Clone_string_string) : ∀ x, (mkFn cfg [D_slices_Clone_string_string f_slices_Clone_string_string] (lookN []) 10 [.cell 2 26] (Tryz.f82.body.getD .skip) p_i_FlushDisk r_i_FlushDisk).fn x = B_i_FlushDisk f_slices_Clone_string_string x.1 := by intro x; kernel_rfl
theorem S_i_FlushDisk : Sound Tryz.prog 82 F_i_FlushDisk := sm MO cfg_ok (tc Tryz.call135 S_slices_Clone_string_string tab_nil) Tryz.func82 (by kernel_rfl) (by decide) (E_i_FlushDisk P_slices_Clone_string_string)
abbrev p_i_Server_syncAll : List PK := [.ptr kServer]
abbrev r_i_Server_syncAll : List RK := [.val false (.sl 85 kHeld)]
noncomputable def D_i_Server_syncAll (f : Y_i_Server_syncAll) : Nat × Fn := (37, ⟨p_i_Server_syncAll, r_i_Server_syncAll, fun x => f x.1⟩)
noncomputable def F_i_Server_syncAll : Fn := (D_i_Server_syncAll P_i_Server_syncAll).2
theorem E_i_Server_syncAll (f_i_FlushDisk : Y_i_FlushDisk) : ∀ x, (mkFn cfg [D_i_FlushDisk f_i_FlushDisk] (lookN []) 22 [.tmp 2] (Tryz.f37.body.getD .skip) p_i_Server_syncAll r_i_Server_syncAll).fn x = B_i_Server_syncAll f_i_FlushDisk x.1 := by intro x; kernel_rfl
theorem S_i_Server_syncAll : Sound Tryz.prog 37 F_i_Server_syncAll := sm MO cfg_ok (tc Tryz.call82 S_i_FlushDisk tab_nil) Tryz.func37 (by kernel_rfl) (by decide) (E_i_Server_syncAll P_i_FlushDisk)
abbrev p_i_SyncAll : List PK := [.val true (.pair (.pair (.pair (.rs 9 .str) (.rs 9 .str)) (.pair (.int .i64) (.pair (.int .i64) (.rs 89 kUp)))) (.rs 85 kHeld)) false]
abbrev r_i_SyncAll : List RK := [.val true kServer, .val false (.sl 85 kHeld)]
noncomputable def D_i_SyncAll (f : Y_i_SyncAll) : Nat × Fn := (9, ⟨p_i_SyncAll, r_i_SyncAll, fun x => f x.1⟩)
noncomputable def F_i_SyncAll : Fn := (D_i_SyncAll P_i_SyncAll).2
theorem E_i_SyncAll (f_i_ServerOk : Y_i_ServerOk) (f_i_copyServer : Y_i_copyServer) (f_i_Server_syncAll : Y_i_Server_syncAll) : ∀ x, (mkFn cfg [D_i_ServerOk f_i_ServerOk, D_i_copyServer f_i_copyServer, D_i_Server_syncAll f_i_Server_syncAll] (lookN []) 15 [.cell 2 32, .tmp 3] (Tryz.f9.body.getD .skip) p_i_SyncAll r_i_SyncAll).fn x = B_i_SyncAll f_i_ServerOk f_i_copyServer f_i_Server_syncAll x.1 := by intro x; kernel_rfl
theorem S_i_SyncAll : Sound Tryz.prog 9 F_i_SyncAll := sm MO cfg_ok (tc Tryz.call13 S_i_ServerOk (tc Tryz.call36 S_i_copyServer (tc Tryz.call37 S_i_Server_syncAll tab_nil))) Tryz.func9 (by kernel_rfl) (by decide) (E_i_SyncAll P_i_ServerOk P_i_copyServer P_i_Server_syncAll)
abbrev p_i_TopEpoch : List PK := [.val true (.pair (.rs 9 .str) (.rs 9 .str)) false]
abbrev r_i_TopEpoch : List RK := [.val false (.int .i64)]
noncomputable def D_i_TopEpoch (f : Y_i_TopEpoch) : Nat × Fn := (136, ⟨p_i_TopEpoch, r_i_TopEpoch, fun x => f x.1⟩)
noncomputable def F_i_TopEpoch : Fn := (D_i_TopEpoch P_i_TopEpoch).2
theorem E_i_TopEpoch (f_i_topFrom : Y_i_topFrom) : ∀ x, (mkFn cfg [D_i_topFrom f_i_topFrom] (lookN []) 6 [.tmp 2] (Tryz.f136.body.getD .skip) p_i_TopEpoch r_i_TopEpoch).fn x = B_i_TopEpoch f_i_topFrom x.1 := by intro x; kernel_rfl
theorem S_i_TopEpoch : Sound Tryz.prog 136 F_i_TopEpoch := sm MO cfg_ok (tc Tryz.call91 S_i_topFrom tab_nil) Tryz.func136 (by kernel_rfl) (by decide) (E_i_TopEpoch P_i_topFrom)
def A_i_OpenStore : Nat → Option Jn := lookN [(63, ⟨[], lt 22 6 [], false⟩)]
abbrev p_i_OpenStore : List PK := [.val true (.pair (.rs 9 .str) (.rs 9 .str)) false]
abbrev r_i_OpenStore : List RK := [.val true kStore, .val false .bool]
noncomputable def D_i_OpenStore (f : Y_i_OpenStore) : Nat × Fn := (83, ⟨p_i_OpenStore, r_i_OpenStore, fun x => f x.1⟩)
noncomputable def F_i_OpenStore : Fn := (D_i_OpenStore P_i_OpenStore).2
theorem E_i_OpenStore (f_i_DiskOk : Y_i_DiskOk) (f_i_ScanRecs : Y_i_ScanRecs) (f_i_FoldRecs : Y_i_FoldRecs) (f_i_copyDisk : Y_i_copyDisk) (f_i_TopEpoch : Y_i_TopEpoch) : ∀ x, (mkFn cfg [D_i_DiskOk f_i_DiskOk, D_i_ScanRecs f_i_ScanRecs, D_i_FoldRecs f_i_FoldRecs, D_i_copyDisk f_i_copyDisk, D_i_TopEpoch f_i_TopEpoch] A_i_OpenStore 36 [.cell 2 29, .tmp 3] (Tryz.f83.body.getD .skip) p_i_OpenStore r_i_OpenStore).fn x = B_i_OpenStore f_i_DiskOk f_i_ScanRecs f_i_FoldRecs f_i_copyDisk f_i_TopEpoch x.1 := by intro x; kernel_rfl
theorem S_i_OpenStore : Sound Tryz.prog 83 F_i_OpenStore := sm MO cfg_ok (tc Tryz.call86 S_i_DiskOk (tc Tryz.call87 S_i_ScanRecs (tc Tryz.call88 S_i_FoldRecs (tc Tryz.call133 S_i_copyDisk (tc Tryz.call136 S_i_TopEpoch tab_nil))))) Tryz.func83 (by kernel_rfl) (by decide) (E_i_OpenStore P_i_DiskOk P_i_ScanRecs P_i_FoldRecs P_i_copyDisk P_i_TopEpoch)
def A_i_FallDisk : Nat → Option Jn := lookN [(122, ⟨[.t 16 false [.int .i64], .b 5 [.own 36864, .own 36865], .r 36864 9 .str, .r 36865 9 .str], lt 17 31 [.t 6, .x 35, .x 37, .x 44, .x 46], false⟩), (7833, ⟨[.t 28 false [.bool]], lt 19 9 [], true⟩)]
abbrev p_i_FallDisk : List PK := [.val true (.pair (.rs 9 .str) (.rs 9 .str)) false, .val false (.rs 4 .bool) false]
abbrev r_i_FallDisk : List RK := [.val true kDisk]
noncomputable def D_i_FallDisk (f : Y_i_FallDisk) : Nat × Fn := (84, ⟨p_i_FallDisk, r_i_FallDisk, fun x => f x.1 x.2.1⟩)
noncomputable def F_i_FallDisk : Fn := (D_i_FallDisk P_i_FallDisk).2
theorem E_i_FallDisk (f_i_DiskOk : Y_i_DiskOk) (f_i_copyDisk : Y_i_copyDisk) : ∀ x, (mkFn cfg [D_i_DiskOk f_i_DiskOk, D_i_copyDisk f_i_copyDisk] A_i_FallDisk 49 [.cell 4 26] (Tryz.f84.body.getD .skip) p_i_FallDisk r_i_FallDisk).fn x = B_i_FallDisk f_i_DiskOk f_i_copyDisk x.1 x.2.1 := by intro x; kernel_rfl
theorem S_i_FallDisk : Sound Tryz.prog 84 F_i_FallDisk := sm MO cfg_ok (tc Tryz.call86 S_i_DiskOk (tc Tryz.call133 S_i_copyDisk tab_nil)) Tryz.func84 (by kernel_rfl) (by decide) (E_i_FallDisk P_i_DiskOk P_i_copyDisk)
abbrev p_i_Server_crash : List PK := [.ptr kServer, .val false (.rs 4 .bool) false]
abbrev r_i_Server_crash : List RK := [.val false .bool]
noncomputable def D_i_Server_crash (f : Y_i_Server_crash) : Nat × Fn := (38, ⟨p_i_Server_crash, r_i_Server_crash, fun x => f x.1 x.2.1⟩)
noncomputable def F_i_Server_crash : Fn := (D_i_Server_crash P_i_Server_crash).2
theorem E_i_Server_crash (f_i_OpenStore : Y_i_OpenStore) (f_i_FallDisk : Y_i_FallDisk) : ∀ x, (mkFn cfg [D_i_OpenStore f_i_OpenStore, D_i_FallDisk f_i_FallDisk] (lookN []) 24 [.tmp 4] (Tryz.f38.body.getD .skip) p_i_Server_crash r_i_Server_crash).fn x = B_i_Server_crash f_i_OpenStore f_i_FallDisk x.1 x.2.1 := by intro x; kernel_rfl
theorem S_i_Server_crash : Sound Tryz.prog 38 F_i_Server_crash := sm MO cfg_ok (tc Tryz.call83 S_i_OpenStore (tc Tryz.call84 S_i_FallDisk tab_nil)) Tryz.func38 (by kernel_rfl) (by decide) (E_i_Server_crash P_i_OpenStore P_i_FallDisk)
abbrev p_i_CrashServer : List PK := [.val true (.pair (.pair (.pair (.rs 9 .str) (.rs 9 .str)) (.pair (.int .i64) (.pair (.int .i64) (.rs 89 kUp)))) (.rs 85 kHeld)) false, .val false (.rs 4 .bool) false]
abbrev r_i_CrashServer : List RK := [.val true kServer, .val false .bool]
noncomputable def D_i_CrashServer (f : Y_i_CrashServer) : Nat × Fn := (10, ⟨p_i_CrashServer, r_i_CrashServer, fun x => f x.1 x.2.1⟩)
noncomputable def F_i_CrashServer : Fn := (D_i_CrashServer P_i_CrashServer).2
theorem E_i_CrashServer (f_i_ServerOk : Y_i_ServerOk) (f_i_copyServer : Y_i_copyServer) (f_i_Server_crash : Y_i_Server_crash) : ∀ x, (mkFn cfg [D_i_ServerOk f_i_ServerOk, D_i_copyServer f_i_copyServer, D_i_Server_crash f_i_Server_crash] (lookN []) 18 [.cell 4 32, .tmp 5] (Tryz.f10.body.getD .skip) p_i_CrashServer r_i_CrashServer).fn x = B_i_CrashServer f_i_ServerOk f_i_copyServer f_i_Server_crash x.1 x.2.1 := by intro x; kernel_rfl
theorem S_i_CrashServer : Sound Tryz.prog 10 F_i_CrashServer := sm MO cfg_ok (tc Tryz.call13 S_i_ServerOk (tc Tryz.call36 S_i_copyServer (tc Tryz.call38 S_i_Server_crash tab_nil))) Tryz.func10 (by kernel_rfl) (by decide) (E_i_CrashServer P_i_ServerOk P_i_copyServer P_i_Server_crash)
def A_w_sameHeld : Nat → Option Jn := lookN [(58, ⟨[.t 5 false [.int .i64]], lt 11 15 [], false⟩)]
abbrev p_w_sameHeld : List PK := [.val false (.rs 85 kHeld) false, .val false (.rs 85 kHeld) false]
abbrev r_w_sameHeld : List RK := [.val false .bool]
noncomputable def D_w_sameHeld (f : Y_w_sameHeld) : Nat × Fn := (12, ⟨p_w_sameHeld, r_w_sameHeld, fun x => f x.1 x.2.1⟩)
noncomputable def F_w_sameHeld : Fn := (D_w_sameHeld P_w_sameHeld).2
theorem E_w_sameHeld : ∀ x, (mkFn (cfg.withEq [(85, 3)]) [] A_w_sameHeld 26 [.tmp 4] (Tryz.f12.body.getD .skip) p_w_sameHeld r_w_sameHeld).fn x = B_w_sameHeld x.1 x.2.1 := by intro x; kernel_rfl
theorem S_w_sameHeld : Sound Tryz.prog 12 F_w_sameHeld := sm MO (withEq_ok (l := [(85, 3)]) cfg_ok ⟨eq85, trivial⟩) tab_nil Tryz.func12 (by kernel_rfl) (by decide) (E_w_sameHeld)
def A_w_sameBytes : Nat → Option Jn := lookN [(58, ⟨[.t 5 false [.int .i64]], lt 11 15 [], false⟩)]
abbrev p_w_sameBytes : List PK := [.val false (.rs 5 (.int .u8)) false, .val false (.rs 5 (.int .u8)) false]
abbrev r_w_sameBytes : List RK := [.val false .bool]
noncomputable def D_w_sameBytes (f : Y_w_sameBytes) : Nat × Fn := (42, ⟨p_w_sameBytes, r_w_sameBytes, fun x => f x.1 x.2.1⟩)
noncomputable def F_w_sameBytes : Fn := (D_w_sameBytes P_w_sameBytes).2
theorem E_w_sameBytes : ∀ x, (mkFn cfg [] A_w_sameBytes 26 [.tmp 4] (Tryz.f42.body.getD .skip) p_w_sameBytes r_w_sameBytes).fn x = B_w_sameBytes x.1 x.2.1 := by intro x; kernel_rfl
theorem S_w_sameBytes : Sound Tryz.prog 42 F_w_sameBytes := sm MO cfg_ok tab_nil Tryz.func42 (by kernel_rfl) (by decide) (E_w_sameBytes)
def A_w_sameUps : Nat → Option Jn := lookN [(58, ⟨[.t 5 false [.int .i64]], lt 11 57 [], false⟩)]
abbrev p_w_sameUps : List PK := [.val false (.rs 89 kUp) false, .val false (.rs 89 kUp) false]
abbrev r_w_sameUps : List RK := [.val false .bool]
noncomputable def D_w_sameUps (f : Y_w_sameUps) : Nat × Fn := (14, ⟨p_w_sameUps, r_w_sameUps, fun x => f x.1 x.2.1⟩)
noncomputable def F_w_sameUps : Fn := (D_w_sameUps P_w_sameUps).2
theorem E_w_sameUps (f_w_sameBytes : Y_w_sameBytes) : ∀ x, (mkFn cfg [D_w_sameBytes f_w_sameBytes] A_w_sameUps 68 [.tmp 4] (Tryz.f14.body.getD .skip) p_w_sameUps r_w_sameUps).fn x = B_w_sameUps f_w_sameBytes x.1 x.2.1 := by intro x; kernel_rfl
theorem S_w_sameUps : Sound Tryz.prog 14 F_w_sameUps := sm MO cfg_ok (tc Tryz.call42 S_w_sameBytes tab_nil) Tryz.func14 (by kernel_rfl) (by decide) (E_w_sameUps P_w_sameBytes)
def A_s_l1New_r99_0 : Nat → Option Jn := lookN [(7, ⟨[.t 3 false [.int .i64]], lt 8 20 [.t 4], true⟩), (58, ⟨[.t 3 false [.int .i64], .t 4 false [.int .i64]], lt 8 20 [], false⟩), (116, ⟨[], lt 8 8 [], false⟩)]
abbrev p_s_l1New_r99_0 : List PK := [.val false (.rs 5 (.int .u8)) false]
abbrev r_s_l1New_r99_0 : List RK := [.new (.pair (.rs 5 (.int .u8)) kResp)]
noncomputable def D_s_l1New_r99_0 (f : Y_s_l1New) : Nat × Fn := (33, ⟨p_s_l1New_r99_0, r_s_l1New_r99_0, fun x => f x.1⟩)
noncomputable def F_s_l1New_r99_0 : Fn := (D_s_l1New_r99_0 P_s_l1New).2
theorem E_s_l1New_r99_0 : ∀ x, (mkFn cfg [] A_s_l1New_r99_0 32 [.tmp 2] (Tryz.f33.body.getD .skip) p_s_l1New_r99_0 r_s_l1New_r99_0).fn x = B_s_l1New x.1 := by intro x; kernel_rfl
theorem S_s_l1New_r99_0 : Sound Tryz.prog 33 F_s_l1New_r99_0 := sm MO cfg_ok tab_nil Tryz.func33 (by kernel_rfl) (by decide) (E_s_l1New_r99_0)
abbrev p_s_l1Byte_r0_0 : List PK := [.ptr (.pair (.rs 5 (.int .u8)) kResp)]
abbrev r_s_l1Byte_r0_0 : List RK := [.val false (.int .i64)]
noncomputable def D_s_l1Byte_r0_0 (f : Y_s_l1Byte) : Nat × Fn := (126, ⟨p_s_l1Byte_r0_0, r_s_l1Byte_r0_0, fun x => f x.1⟩)
noncomputable def F_s_l1Byte_r0_0 : Fn := (D_s_l1Byte_r0_0 P_s_l1Byte).2
theorem E_s_l1Byte_r0_0 : ∀ x, (mkFn cfg [] (lookN []) 58 [.tmp 2] (Tryz.f126.body.getD .skip) p_s_l1Byte_r0_0 r_s_l1Byte_r0_0).fn x = B_s_l1Byte x.1 := by intro x; kernel_rfl
theorem S_s_l1Byte_r0_0 : Sound Tryz.prog 126 F_s_l1Byte_r0_0 := sm MO cfg_ok tab_nil Tryz.func126 (by kernel_rfl) (by decide) (E_s_l1Byte_r0_0)
abbrev p_s_l1Below_r0_0 : List PK := [.ptr (.pair (.rs 5 (.int .u8)) kResp), .val false (.int .i64) false]
abbrev r_s_l1Below_r0_0 : List RK := [.val false (.int .i64)]
noncomputable def D_s_l1Below_r0_0 (f : Y_s_l1Below) : Nat × Fn := (76, ⟨p_s_l1Below_r0_0, r_s_l1Below_r0_0, fun x => f x.1 x.2.1⟩)
noncomputable def F_s_l1Below_r0_0 : Fn := (D_s_l1Below_r0_0 P_s_l1Below).2
theorem E_s_l1Below_r0_0 (f_s_l1Byte : Y_s_l1Byte) : ∀ x, (mkFn cfg [D_s_l1Byte_r0_0 f_s_l1Byte] (lookN []) 31 [.tmp 4] (Tryz.f76.body.getD .skip) p_s_l1Below_r0_0 r_s_l1Below_r0_0).fn x = B_s_l1Below f_s_l1Byte x.1 x.2.1 := by intro x; kernel_rfl
theorem S_s_l1Below_r0_0 : Sound Tryz.prog 76 F_s_l1Below_r0_0 := sm MO cfg_ok (tc Tryz.call126 S_s_l1Byte_r0_0 tab_nil) Tryz.func76 (by kernel_rfl) (by decide) (E_s_l1Below_r0_0 P_s_l1Byte)
abbrev p_s_l1Int_r0_0 : List PK := [.ptr (.pair (.rs 5 (.int .u8)) kResp), .val false (.rs 3 (.int .i64)) false]
abbrev r_s_l1Int_r0_0 : List RK := [.val false (.int .i64)]
noncomputable def D_s_l1Int_r0_0 (f : Y_s_l1Int) : Nat × Fn := (75, ⟨p_s_l1Int_r0_0, r_s_l1Int_r0_0, fun x => f x.1 x.2.1⟩)
noncomputable def F_s_l1Int_r0_0 : Fn := (D_s_l1Int_r0_0 P_s_l1Int).2
theorem E_s_l1Int_r0_0 (f_s_l1Below : Y_s_l1Below) : ∀ x, (mkFn cfg [D_s_l1Below_r0_0 f_s_l1Below] (lookN []) 12 [.tmp 4] (Tryz.f75.body.getD .skip) p_s_l1Int_r0_0 r_s_l1Int_r0_0).fn x = B_s_l1Int f_s_l1Below x.1 x.2.1 := by intro x; kernel_rfl
theorem S_s_l1Int_r0_0 : Sound Tryz.prog 75 F_s_l1Int_r0_0 := sm MO cfg_ok (tc Tryz.call76 S_s_l1Below_r0_0 tab_nil) Tryz.func75 (by kernel_rfl) (by decide) (E_s_l1Int_r0_0 P_s_l1Below)
abbrev p_s_l1Once_r0_0 : List PK := [.ptr (.pair (.rs 5 (.int .u8)) kResp), .val false (.int .i64) false]
abbrev r_s_l1Once_r0_0 : List RK := [.val false .bool]
noncomputable def D_s_l1Once_r0_0 (f : Y_s_l1Once) : Nat × Fn := (39, ⟨p_s_l1Once_r0_0, r_s_l1Once_r0_0, fun x => f x.1 x.2.1⟩)
noncomputable def F_s_l1Once_r0_0 : Fn := (D_s_l1Once_r0_0 P_s_l1Once).2
theorem E_s_l1Once_r0_0 (f_s_l1Below : Y_s_l1Below) : ∀ x, (mkFn cfg [D_s_l1Below_r0_0 f_s_l1Below] (lookN []) 9 [.tmp 4] (Tryz.f39.body.getD .skip) p_s_l1Once_r0_0 r_s_l1Once_r0_0).fn x = B_s_l1Once f_s_l1Below x.1 x.2.1 := by intro x; kernel_rfl
theorem S_s_l1Once_r0_0 : Sound Tryz.prog 39 F_s_l1Once_r0_0 := sm MO cfg_ok (tc Tryz.call76 S_s_l1Below_r0_0 tab_nil) Tryz.func39 (by kernel_rfl) (by decide) (E_s_l1Once_r0_0 P_s_l1Below)
def A_s_l12Kept_r0_0 : Nat → Option Jn := lookN [(58, ⟨[.t 3 false [.own 100000000], .t 4 false [.int .i64], .b 1000 [.ro 5 (.int .u8), .int .i64, .int .i64], .r 100000000 4 .bool], lt 8 9 [.r 5, .r 15, .r 16], false⟩)]
abbrev p_s_l12Kept_r0_0 : List PK := [.ptr (.pair (.rs 5 (.int .u8)) kResp)]
abbrev r_s_l12Kept_r0_0 : List RK := [.val false (.sl 4 .bool)]
noncomputable def D_s_l12Kept_r0_0 (f : Y_s_l12Kept_r0_0) : Nat × Fn := (77, ⟨p_s_l12Kept_r0_0, r_s_l12Kept_r0_0, fun x => f x.1⟩)
noncomputable def F_s_l12Kept_r0_0 : Fn := (D_s_l12Kept_r0_0 P_s_l12Kept_r0_0).2
theorem E_s_l12Kept_r0_0 (f_s_l1Once : Y_s_l1Once) (f_s_l1Below : Y_s_l1Below) : ∀ x, (mkFn cfg [D_s_l1Once_r0_0 f_s_l1Once, D_s_l1Below_r0_0 f_s_l1Below] A_s_l12Kept_r0_0 18 [.tmp 2] (Tryz.f77.body.getD .skip) p_s_l12Kept_r0_0 r_s_l12Kept_r0_0).fn x = B_s_l12Kept_r0_0 f_s_l1Once f_s_l1Below x.1 := by intro x; kernel_rfl
theorem S_s_l12Kept_r0_0 : Sound Tryz.prog 77 F_s_l12Kept_r0_0 := sm MO cfg_ok (tc Tryz.call39 S_s_l1Once_r0_0 (tc Tryz.call76 S_s_l1Below_r0_0 tab_nil)) Tryz.func77 (by kernel_rfl) (by decide) (E_s_l12Kept_r0_0 P_s_l1Once P_s_l1Below)
abbrev p_s_l1Str_r0_0 : List PK := [.ptr (.pair (.rs 5 (.int .u8)) kResp), .val false (.rs 9 .str) false]
abbrev r_s_l1Str_r0_0 : List RK := [.val false .str]
noncomputable def D_s_l1Str_r0_0 (f : Y_s_l1Str) : Nat × Fn := (128, ⟨p_s_l1Str_r0_0, r_s_l1Str_r0_0, fun x => f x.1 x.2.1⟩)
noncomputable def F_s_l1Str_r0_0 : Fn := (D_s_l1Str_r0_0 P_s_l1Str).2
theorem E_s_l1Str_r0_0 (f_s_l1Below : Y_s_l1Below) : ∀ x, (mkFn cfg [D_s_l1Below_r0_0 f_s_l1Below] (lookN []) 12 [.tmp 4] (Tryz.f128.body.getD .skip) p_s_l1Str_r0_0 r_s_l1Str_r0_0).fn x = B_s_l1Str f_s_l1Below x.1 x.2.1 := by intro x; kernel_rfl
theorem S_s_l1Str_r0_0 : Sound Tryz.prog 128 F_s_l1Str_r0_0 := sm MO cfg_ok (tc Tryz.call76 S_s_l1Below_r0_0 tab_nil) Tryz.func128 (by kernel_rfl) (by decide) (E_s_l1Str_r0_0 P_s_l1Below)
abbrev p_s_l11Req_r0_0 : List PK := [.ptr (.pair (.rs 5 (.int .u8)) kResp)]
abbrev r_s_l11Req_r0_0 : List RK := [.val true kReq]
noncomputable def D_s_l11Req_r0_0 (f : Y_s_l11Req) : Nat × Fn := (127, ⟨p_s_l11Req_r0_0, r_s_l11Req_r0_0, fun x => f x.1⟩)
noncomputable def F_s_l11Req_r0_0 : Fn := (D_s_l11Req_r0_0 P_s_l11Req).2
theorem E_s_l11Req_r0_0 (f_s_l1Once : Y_s_l1Once) (f_s_l1Int : Y_s_l1Int) (f_s_l1Below : Y_s_l1Below) (f_s_l11Most : Y_s_l11Most) (f_s_l1Str : Y_s_l1Str) : ∀ x, (mkFn cfg [D_s_l1Once_r0_0 f_s_l1Once, D_s_l1Int_r0_0 f_s_l1Int, D_s_l1Below_r0_0 f_s_l1Below, D_s_l11Most f_s_l11Most, D_s_l1Str_r0_0 f_s_l1Str] (lookN []) 28 [.cell 2 108] (Tryz.f127.body.getD .skip) p_s_l11Req_r0_0 r_s_l11Req_r0_0).fn x = B_s_l11Req f_s_l1Once f_s_l1Int f_s_l1Below f_s_l11Most f_s_l1Str x.1 := by intro x; kernel_rfl
theorem S_s_l11Req_r0_0 : Sound Tryz.prog 127 F_s_l11Req_r0_0 := sm MO cfg_ok (tc Tryz.call39 S_s_l1Once_r0_0 (tc Tryz.call75 S_s_l1Int_r0_0 (tc Tryz.call76 S_s_l1Below_r0_0 (tc Tryz.call117 S_s_l11Most (tc Tryz.call128 S_s_l1Str_r0_0 tab_nil))))) Tryz.func127 (by kernel_rfl) (by decide) (E_s_l11Req_r0_0 P_s_l1Once P_s_l1Int P_s_l1Below P_s_l11Most P_s_l1Str)
def A_s_l1Bytes_r0_0 : Nat → Option Jn := lookN [(58, ⟨[.t 5 false [.own 100000000], .t 6 false [.int .i64], .b 1000 [.ro 5 (.int .u8), .int .i64, .int .i64], .r 100000000 5 (.int .u8)], lt 8 11 [.r 7, .r 17, .r 18], false⟩)]
abbrev p_s_l1Bytes_r0_0 : List PK := [.ptr (.pair (.rs 5 (.int .u8)) kResp), .val false (.int .i64) false]
abbrev r_s_l1Bytes_r0_0 : List RK := [.val false (.sl 5 (.int .u8))]
noncomputable def D_s_l1Bytes_r0_0 (f : Y_s_l1Bytes_r0_0) : Nat × Fn := (130, ⟨p_s_l1Bytes_r0_0, r_s_l1Bytes_r0_0, fun x => f x.1 x.2.1⟩)
noncomputable def F_s_l1Bytes_r0_0 : Fn := (D_s_l1Bytes_r0_0 P_s_l1Bytes_r0_0).2
theorem E_s_l1Bytes_r0_0 (f_s_l1Byte : Y_s_l1Byte) : ∀ x, (mkFn cfg [D_s_l1Byte_r0_0 f_s_l1Byte] A_s_l1Bytes_r0_0 20 [.tmp 4] (Tryz.f130.body.getD .skip) p_s_l1Bytes_r0_0 r_s_l1Bytes_r0_0).fn x = B_s_l1Bytes_r0_0 f_s_l1Byte x.1 x.2.1 := by intro x; kernel_rfl
theorem S_s_l1Bytes_r0_0 : Sound Tryz.prog 130 F_s_l1Bytes_r0_0 := sm MO cfg_ok (tc Tryz.call126 S_s_l1Byte_r0_0 tab_nil) Tryz.func130 (by kernel_rfl) (by decide) (E_s_l1Bytes_r0_0 P_s_l1Byte)
def A_s_l15Req_r0_0 : Nat → Option Jn := lookN [(32443, ⟨[.t 61 false [.bool], .b 1000 [.ro 5 (.int .u8), .int .i64, .int .i64]], lt 52 9 [], true⟩)]
abbrev p_s_l15Req_r0_0 : List PK := [.ptr (.pair (.rs 5 (.int .u8)) kResp), .val true (.pair (.pair (.rs 9 .str) (.rs 9 .str)) (.pair (.int .i64) (.pair (.int .i64) (.rs 89 kUp)))) false]
abbrev r_s_l15Req_r0_0 : List RK := [.val true kReq, .val false (.sl 5 (.int .u8))]
noncomputable def D_s_l15Req_r0_0 (f : Y_s_l15Req_r0_0) : Nat × Fn := (78, ⟨p_s_l15Req_r0_0, r_s_l15Req_r0_0, fun x => f x.1 x.2.1⟩)
noncomputable def F_s_l15Req_r0_0 : Fn := (D_s_l15Req_r0_0 P_s_l15Req_r0_0).2
theorem E_s_l15Req_r0_0 (f_s_l1Once : Y_s_l1Once) (f_s_l1Int : Y_s_l1Int) (f_s_l11Req : Y_s_l11Req) (f_s_l1Str : Y_s_l1Str) (f_s_UpAt : Y_s_UpAt) (f_s_l1Bytes_r0_0 : Y_s_l1Bytes_r0_0) (f_s_Crc : Y_s_Crc) : ∀ x, (mkFn cfg [D_s_l1Once_r0_0 f_s_l1Once, D_s_l1Int_r0_0 f_s_l1Int, D_s_l11Req_r0_0 f_s_l11Req, D_s_l1Str_r0_0 f_s_l1Str, D_s_UpAt f_s_UpAt, D_s_l1Bytes_r0_0 f_s_l1Bytes_r0_0, D_s_Crc f_s_Crc] A_s_l15Req_r0_0 84 [.cell 4 108, .tmp 5] (Tryz.f78.body.getD .skip) p_s_l15Req_r0_0 r_s_l15Req_r0_0).fn x = B_s_l15Req_r0_0 f_s_l1Once f_s_l1Int f_s_l11Req f_s_l1Str f_s_UpAt f_s_l1Bytes_r0_0 f_s_Crc x.1 x.2.1 := by intro x; kernel_rfl
theorem S_s_l15Req_r0_0 : Sound Tryz.prog 78 F_s_l15Req_r0_0 := sm MO cfg_ok (tc Tryz.call39 S_s_l1Once_r0_0 (tc Tryz.call75 S_s_l1Int_r0_0 (tc Tryz.call127 S_s_l11Req_r0_0 (tc Tryz.call128 S_s_l1Str_r0_0 (tc Tryz.call129 S_s_UpAt (tc Tryz.call130 S_s_l1Bytes_r0_0 (tc Tryz.call131 S_s_Crc tab_nil))))))) Tryz.func78 (by kernel_rfl) (by decide) (E_s_l15Req_r0_0 P_s_l1Once P_s_l1Int P_s_l11Req P_s_l1Str P_s_UpAt P_s_l1Bytes_r0_0 P_s_Crc)
def A_s_l15Draw_r0_0_r99_0 : Nat → Option Jn := lookN [(58, ⟨[.t 6 false [.int .i64], .b 5 [.ro 9 .str, .ro 9 .str, .int .i64, .int .i64, .ro 89 kUp, .ro 85 kHeld], .b 1000 [.ro 5 (.int .u8), .int .i64, .int .i64]], lt 18 40 (lt 7 4 [.b 7, .b 9, .r 61440, .r 61441, .r 61444, .r 61445, .r 118912, .r 155653, .r 184320, .r 184321, .r 184324, .r 184325, .r 184448, .r 217088, .r 221184, .r 221185, .r 221189, .t 14]), false⟩)]
abbrev p_s_l15Draw_r0_0_r99_0 : List PK := [.ptr (.pair (.rs 5 (.int .u8)) kResp), .val false (.int .i64) false]
abbrev r_s_l15Draw_r0_0_r99_0 : List RK := [.val true (.pair (.pair (.pair (.rs 9 .str) (.rs 9 .str)) (.pair (.int .i64) (.pair (.int .i64) (.rs 89 kUp)))) (.rs 85 kHeld))]
noncomputable def D_s_l15Draw_r0_0_r99_0 (f : Y_s_l15Draw_r0_0_r99_0) : Nat × Fn := (34, ⟨p_s_l15Draw_r0_0_r99_0, r_s_l15Draw_r0_0_r99_0, fun x => f x.1 x.2.1⟩)
noncomputable def F_s_l15Draw_r0_0_r99_0 : Fn := (D_s_l15Draw_r0_0_r99_0 P_s_l15Draw_r0_0_r99_0).2
theorem E_s_l15Draw_r0_0_r99_0 (f_s_SyncAll : Y_s_SyncAll) (f_s_CrashServer_r99_0 : Y_s_CrashServer_r99_0) (f_s_ServerNew : Y_s_ServerNew) (f_s_l1Int : Y_s_l1Int) (f_s_l1Below : Y_s_l1Below) (f_s_l12Kept_r0_0 : Y_s_l12Kept_r0_0) (f_s_l15Req_r0_0 : Y_s_l15Req_r0_0) (f_s_Serve_r99_0 : Y_s_Serve_r99_0) : ∀ x, (mkFn cfg [D_s_SyncAll f_s_SyncAll, D_s_CrashServer_r99_0 f_s_CrashServer_r99_0, D_s_ServerNew f_s_ServerNew, D_s_l1Int_r0_0 f_s_l1Int, D_s_l1Below_r0_0 f_s_l1Below, D_s_l12Kept_r0_0 f_s_l12Kept_r0_0, D_s_l15Req_r0_0 f_s_l15Req_r0_0, D_s_Serve_r99_0 f_s_Serve_r99_0] A_s_l15Draw_r0_0_r99_0 59 [.cell 4 32] (Tryz.f34.body.getD .skip) p_s_l15Draw_r0_0_r99_0 r_s_l15Draw_r0_0_r99_0).fn x = B_s_l15Draw_r0_0_r99_0 f_s_SyncAll f_s_CrashServer_r99_0 f_s_ServerNew f_s_l1Int f_s_l1Below f_s_l12Kept_r0_0 f_s_l15Req_r0_0 f_s_Serve_r99_0 x.1 x.2.1 := by intro x; kernel_rfl
theorem S_s_l15Draw_r0_0_r99_0 : Sound Tryz.prog 34 F_s_l15Draw_r0_0_r99_0 := sm MO cfg_ok (tc Tryz.call16 S_s_SyncAll (tc Tryz.call24 S_s_CrashServer_r99_0 (tc Tryz.call74 S_s_ServerNew (tc Tryz.call75 S_s_l1Int_r0_0 (tc Tryz.call76 S_s_l1Below_r0_0 (tc Tryz.call77 S_s_l12Kept_r0_0 (tc Tryz.call78 S_s_l15Req_r0_0 (tc Tryz.call79 S_s_Serve_r99_0 tab_nil)))))))) Tryz.func34 (by kernel_rfl) (by decide) (E_s_l15Draw_r0_0_r99_0 P_s_SyncAll P_s_CrashServer_r99_0 P_s_ServerNew P_s_l1Int P_s_l1Below P_s_l12Kept_r0_0 P_s_l15Req_r0_0 P_s_Serve_r99_0)
abbrev p_s_DrawServer_r99_0 : List PK := [.val false (.rs 5 (.int .u8)) false]
abbrev r_s_DrawServer_r99_0 : List RK := [.val true (.pair (.pair (.pair (.rs 9 .str) (.rs 9 .str)) (.pair (.int .i64) (.pair (.int .i64) (.rs 89 kUp)))) (.rs 85 kHeld))]
noncomputable def D_s_DrawServer_r99_0 (f : Y_s_DrawServer_r99_0) : Nat × Fn := (8, ⟨p_s_DrawServer_r99_0, r_s_DrawServer_r99_0, fun x => f x.1⟩)
noncomputable def F_s_DrawServer_r99_0 : Fn := (D_s_DrawServer_r99_0 P_s_DrawServer_r99_0).2
theorem E_s_DrawServer_r99_0 (f_s_l1New : Y_s_l1New) (f_s_l15Draw_r0_0_r99_0 : Y_s_l15Draw_r0_0_r99_0) (f_s_l1Size : Y_s_l1Size) : ∀ x, (mkFn cfg [D_s_l1New_r99_0 f_s_l1New, D_s_l15Draw_r0_0_r99_0 f_s_l15Draw_r0_0_r99_0, D_s_l1Size f_s_l1Size] (lookN []) 11 [.cell 2 32] (Tryz.f8.body.getD .skip) p_s_DrawServer_r99_0 r_s_DrawServer_r99_0).fn x = B_s_DrawServer_r99_0 f_s_l1New f_s_l15Draw_r0_0_r99_0 f_s_l1Size x.1 := by intro x; kernel_rfl
theorem S_s_DrawServer_r99_0 : Sound Tryz.prog 8 F_s_DrawServer_r99_0 := sm MO cfg_ok (tc Tryz.call33 S_s_l1New_r99_0 (tc Tryz.call34 S_s_l15Draw_r0_0_r99_0 (tc Tryz.call35 S_s_l1Size tab_nil))) Tryz.func8 (by kernel_rfl) (by decide) (E_s_DrawServer_r99_0 P_s_l1New P_s_l15Draw_r0_0_r99_0 P_s_l1Size)
def A_s_DrawKept_r99_0 : Nat → Option Jn := lookN [(122, ⟨[.t 4 false [.own 100000000], .t 5 false [.int .i64], .b 32768 [.ro 5 (.int .u8), .int .i64, .int .i64], .r 100000000 4 .bool], lt 9 9 [.r 8, .r 16, .r 17], false⟩)]
abbrev p_s_DrawKept_r99_0 : List PK := [.val false (.rs 5 (.int .u8)) false]
abbrev r_s_DrawKept_r99_0 : List RK := [.val false (.sl 4 .bool)]
noncomputable def D_s_DrawKept_r99_0 (f : Y_s_DrawKept_r99_0) : Nat × Fn := (11, ⟨p_s_DrawKept_r99_0, r_s_DrawKept_r99_0, fun x => f x.1⟩)
noncomputable def F_s_DrawKept_r99_0 : Fn := (D_s_DrawKept_r99_0 P_s_DrawKept_r99_0).2
theorem E_s_DrawKept_r99_0 (f_s_l1New : Y_s_l1New) (f_s_l1Once : Y_s_l1Once) : ∀ x, (mkFn cfg [D_s_l1New_r99_0 f_s_l1New, D_s_l1Once_r0_0 f_s_l1Once] A_s_DrawKept_r99_0 19 [.tmp 2] (Tryz.f11.body.getD .skip) p_s_DrawKept_r99_0 r_s_DrawKept_r99_0).fn x = B_s_DrawKept_r99_0 f_s_l1New f_s_l1Once x.1 := by intro x; kernel_rfl
theorem S_s_DrawKept_r99_0 : Sound Tryz.prog 11 F_s_DrawKept_r99_0 := sm MO cfg_ok (tc Tryz.call33 S_s_l1New_r99_0 (tc Tryz.call39 S_s_l1Once_r0_0 tab_nil)) Tryz.func11 (by kernel_rfl) (by decide) (E_s_DrawKept_r99_0 P_s_l1New P_s_l1Once)
abbrev p_w_FnTold : List PK := [.val false (.rs 5 (.int .u8)) false]
abbrev r_w_FnTold : List RK := [.val false .bool]
noncomputable def D_w_FnTold (f : Y_w_FnTold) : Nat × Fn := (3, ⟨p_w_FnTold, r_w_FnTold, fun x => f x.1⟩)
noncomputable def F_w_FnTold : Fn := (D_w_FnTold P_w_FnTold).2
theorem E_w_FnTold (f_w_big : Y_w_big) (f_s_DrawServer_r99_0 : Y_s_DrawServer_r99_0) (f_i_SyncAll : Y_i_SyncAll) (f_i_CrashServer : Y_i_CrashServer) (f_s_DrawKept_r99_0 : Y_s_DrawKept_r99_0) (f_w_sameHeld : Y_w_sameHeld) (f_i_ServerOk : Y_i_ServerOk) (f_w_sameUps : Y_w_sameUps) : ∀ x, (mkFn cfg [D_w_big f_w_big, D_s_DrawServer_r99_0 f_s_DrawServer_r99_0, D_i_SyncAll f_i_SyncAll, D_i_CrashServer f_i_CrashServer, D_s_DrawKept_r99_0 f_s_DrawKept_r99_0, D_w_sameHeld f_w_sameHeld, D_i_ServerOk f_i_ServerOk, D_w_sameUps f_w_sameUps] (lookN []) 60 [.tmp 2] (Tryz.f3.body.getD .skip) p_w_FnTold r_w_FnTold).fn x = B_w_FnTold f_w_big f_s_DrawServer_r99_0 f_i_SyncAll f_i_CrashServer f_s_DrawKept_r99_0 f_w_sameHeld f_i_ServerOk f_w_sameUps x.1 := by intro x; kernel_rfl
theorem S_w_FnTold : Sound Tryz.prog 3 F_w_FnTold := sm MO cfg_ok (tc Tryz.call7 S_w_big (tc Tryz.call8 S_s_DrawServer_r99_0 (tc Tryz.call9 S_i_SyncAll (tc Tryz.call10 S_i_CrashServer (tc Tryz.call11 S_s_DrawKept_r99_0 (tc Tryz.call12 S_w_sameHeld (tc Tryz.call13 S_i_ServerOk (tc Tryz.call14 S_w_sameUps tab_nil)))))))) Tryz.func3 (by kernel_rfl) (by decide) (E_w_FnTold P_w_big P_s_DrawServer_r99_0 P_i_SyncAll P_i_CrashServer P_s_DrawKept_r99_0 P_w_sameHeld P_i_ServerOk P_w_sameUps)
end Go.Proofs.YtehbegmomfcmhaaGreat.Ev
