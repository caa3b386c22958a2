/- Each function of the program does what its plain function says. -/
import Derived.Test.YtpdcljonclhhpaaGreatTy
import Derived.Test.YtpdcljonclhhpaaGreatPu
import Derived.Test.YtpdcljonclhhpaaGreatIns
import Derived.Test.YtpdcljonclhhpaaGreatChunk
set_option linter.unusedVariables false
set_option maxRecDepth 100000
namespace Go.Proofs.YtpdcljonclhhpaaGreat.Ev
abbrev p_slices_Insert_impl_Up_impl_Up : List PK := [.val false (.sl 109 kUp) false, .val false (.int .i64) false, .val false (.sl 109 kUp) false]
abbrev r_slices_Insert_impl_Up_impl_Up : List RK := [.val false (.sl 109 kUp)]
noncomputable def D_slices_Insert_impl_Up_impl_Up (f : Y_slices_Insert_impl_Up_impl_Up) : Nat × Fn := (290, ⟨p_slices_Insert_impl_Up_impl_Up, r_slices_Insert_impl_Up_impl_Up, fun x => f x.1 x.2.1 x.2.2.1⟩)
noncomputable def F_slices_Insert_impl_Up_impl_Up : Fn := (D_slices_Insert_impl_Up_impl_Up P_slices_Insert_impl_Up_impl_Up).2
theorem S_slices_Insert_impl_Up_impl_Up : Sound Tryz.prog 290 F_slices_Insert_impl_Up_impl_Up := insert_sound kUp (by decide)
abbrev p_slices_Delete_impl_Up_impl_Up : List PK := [.val false (.sl 109 kUp) false, .val false (.int .i64) false, .val false (.int .i64) false]
abbrev r_slices_Delete_impl_Up_impl_Up : List RK := [.val false (.sl 109 kUp)]
noncomputable def D_slices_Delete_impl_Up_impl_Up (f : Y_slices_Delete_impl_Up_impl_Up) : Nat × Fn := (291, ⟨p_slices_Delete_impl_Up_impl_Up, r_slices_Delete_impl_Up_impl_Up, fun x => f x.1 x.2.1 x.2.2.1⟩)
noncomputable def F_slices_Delete_impl_Up_impl_Up : Fn := (D_slices_Delete_impl_Up_impl_Up P_slices_Delete_impl_Up_impl_Up).2
theorem S_slices_Delete_impl_Up_impl_Up : Sound Tryz.prog 291 F_slices_Delete_impl_Up_impl_Up := delete_sound kUp (by decide)
abbrev p_i_inRange : List PK := [.val false (.int .i64) false, .val false (.int .i64) false, .val false (.int .i64) false]
abbrev r_i_inRange : List RK := [.val false .bool]
noncomputable def D_i_inRange (f : Y_i_inRange) : Nat × Fn := (80, ⟨p_i_inRange, r_i_inRange, fun x => f x.1 x.2.1 x.2.2.1⟩)
noncomputable def F_i_inRange : Fn := (D_i_inRange P_i_inRange).2
theorem E_i_inRange : ∀ x, (mkFn cfg [] (lookN []) 15 [.tmp 6] (Tryz.f80.body.getD .skip) p_i_inRange r_i_inRange).fn x = B_i_inRange x.1 x.2.1 x.2.2.1 := by intro x; kernel_rfl
theorem S_i_inRange : Sound Tryz.prog 80 F_i_inRange := sm MO cfg_ok tab_nil Tryz.func80 (by kernel_rfl) (by decide) (E_i_inRange)
abbrev p_i_RespOk : List PK := [.val true kResp false]
abbrev r_i_RespOk : List RK := [.val false .bool]
noncomputable def D_i_RespOk (f : Y_i_RespOk) : Nat × Fn := (93, ⟨p_i_RespOk, r_i_RespOk, fun x => f x.1⟩)
noncomputable def F_i_RespOk : Fn := (D_i_RespOk P_i_RespOk).2
theorem E_i_RespOk (f_i_inRange : Y_i_inRange) : ∀ x, (mkFn cfg [D_i_inRange f_i_inRange] (lookN []) 11 [.tmp 2] (Tryz.f93.body.getD .skip) p_i_RespOk r_i_RespOk).fn x = B_i_RespOk f_i_inRange x.1 := by intro x; kernel_rfl
theorem S_i_RespOk : Sound Tryz.prog 93 F_i_RespOk := sm MO cfg_ok (tc Tryz.call80 S_i_inRange tab_nil) Tryz.func93 (by kernel_rfl) (by decide) (E_i_RespOk P_i_inRange)
abbrev p_i_isEpoch : List PK := [.val false (.int .i64) false]
abbrev r_i_isEpoch : List RK := [.val false .bool]
noncomputable def D_i_isEpoch (f : Y_i_isEpoch) : Nat × Fn := (168, ⟨p_i_isEpoch, r_i_isEpoch, fun x => f x.1⟩)
noncomputable def F_i_isEpoch : Fn := (D_i_isEpoch P_i_isEpoch).2
theorem E_i_isEpoch (f_i_inRange : Y_i_inRange) : ∀ x, (mkFn cfg [D_i_inRange f_i_inRange] (lookN []) 5 [.tmp 2] (Tryz.f168.body.getD .skip) p_i_isEpoch r_i_isEpoch).fn x = B_i_isEpoch f_i_inRange x.1 := by intro x; kernel_rfl
theorem S_i_isEpoch : Sound Tryz.prog 168 F_i_isEpoch := sm MO cfg_ok (tc Tryz.call80 S_i_inRange tab_nil) Tryz.func168 (by kernel_rfl) (by decide) (E_i_isEpoch P_i_inRange)
def A_i_DiskOk : Nat → Option Jn := lookN [(3, ⟨[], lt 4 13 [], false⟩), (58, ⟨[.t 20 false [.int .i64]], lt 21 19 [.t 3], false⟩)]
abbrev p_i_DiskOk : List PK := [.val true (.pair (.rs 9 .str) (.rs 9 .str)) false]
abbrev r_i_DiskOk : List RK := [.val false .bool]
noncomputable def D_i_DiskOk (f : Y_i_DiskOk) : Nat × Fn := (169, ⟨p_i_DiskOk, r_i_DiskOk, fun x => f x.1⟩)
noncomputable def F_i_DiskOk : Fn := (D_i_DiskOk P_i_DiskOk).2
theorem E_i_DiskOk : ∀ x, (mkFn cfg [] A_i_DiskOk 40 [.tmp 2] (Tryz.f169.body.getD .skip) p_i_DiskOk r_i_DiskOk).fn x = B_i_DiskOk x.1 := by intro x; kernel_rfl
theorem S_i_DiskOk : Sound Tryz.prog 169 F_i_DiskOk := sm MO cfg_ok tab_nil Tryz.func169 (by kernel_rfl) (by decide) (E_i_DiskOk)
def A_i_GetBig : Nat → Option Jn := lookN [(3, ⟨[], lt 11 15 [], false⟩), (15, ⟨[.t 8 false [.int .i64]], lt 26 17 [.t 10], true⟩), (122, ⟨[.t 8 false [.int .i64], .t 33 false [.int .i64]], lt 34 9 [.t 10], false⟩)]
abbrev p_i_GetBig : List PK := [.val false (.rs 5 (.int .u8)) false, .val false (.int .i64) false, .val false (.int .i64) false]
abbrev r_i_GetBig : List RK := [.val false (.int .i64), .val false .bool]
noncomputable def D_i_GetBig (f : Y_i_GetBig) : Nat × Fn := (307, ⟨p_i_GetBig, r_i_GetBig, fun x => f x.1 x.2.1 x.2.2.1⟩)
noncomputable def F_i_GetBig : Fn := (D_i_GetBig P_i_GetBig).2
theorem E_i_GetBig (f_i_inRange : Y_i_inRange) : ∀ x, (mkFn cfg [D_i_inRange f_i_inRange] A_i_GetBig 44 [.tmp 6, .tmp 7] (Tryz.f307.body.getD .skip) p_i_GetBig r_i_GetBig).fn x = B_i_GetBig f_i_inRange x.1 x.2.1 x.2.2.1 := by intro x; kernel_rfl
theorem S_i_GetBig : Sound Tryz.prog 307 F_i_GetBig := sm MO cfg_ok (tc Tryz.call80 S_i_inRange tab_nil) Tryz.func307 (by kernel_rfl) (by decide) (E_i_GetBig P_i_inRange)
def A_i_byteReader_number : Nat → Option Jn := lookN [(7, ⟨[], lt 20 8 [], false⟩)]
abbrev p_i_byteReader_number : List PK := [.ptr kByteReader, .val false (.int .i64) false]
abbrev r_i_byteReader_number : List RK := [.val false (.int .i64)]
noncomputable def D_i_byteReader_number (f : Y_i_byteReader_number) : Nat × Fn := (285, ⟨p_i_byteReader_number, r_i_byteReader_number, fun x => f x.1 x.2.1⟩)
noncomputable def F_i_byteReader_number : Fn := (D_i_byteReader_number P_i_byteReader_number).2
theorem E_i_byteReader_number (f_i_GetBig : Y_i_GetBig) : ∀ x, (mkFn cfg [D_i_GetBig f_i_GetBig] A_i_byteReader_number 40 [.tmp 4] (Tryz.f285.body.getD .skip) p_i_byteReader_number r_i_byteReader_number).fn x = B_i_byteReader_number f_i_GetBig x.1 x.2.1 := by intro x; kernel_rfl
theorem S_i_byteReader_number : Sound Tryz.prog 285 F_i_byteReader_number := sm MO cfg_ok (tc Tryz.call307 S_i_GetBig tab_nil) Tryz.func285 (by kernel_rfl) (by decide) (E_i_byteReader_number P_i_GetBig)
abbrev p_slices_Clone_byte_byte : List PK := [.val false (.rs 5 (.int .u8)) false]
abbrev r_slices_Clone_byte_byte : List RK := [.val false (.sl 5 (.int .u8))]
noncomputable def D_slices_Clone_byte_byte (f : Y_slices_Clone_byte_byte) : Nat × Fn := (191, ⟨p_slices_Clone_byte_byte, r_slices_Clone_byte_byte, fun x => f x.1⟩)
noncomputable def F_slices_Clone_byte_byte : Fn := (D_slices_Clone_byte_byte P_slices_Clone_byte_byte).2
theorem E_slices_Clone_byte_byte : ∀ x, (mkFn cfg [] (lookN []) 8 [.tmp 2] (Tryz.f191.body.getD .skip) p_slices_Clone_byte_byte r_slices_Clone_byte_byte).fn x = B_slices_Clone_byte_byte x.1 := by intro x; kernel_rfl
theorem S_slices_Clone_byte_byte : Sound Tryz.prog 191 F_slices_Clone_byte_byte := sm MO cfg_ok tab_nil Tryz.func191 (by kernel_rfl) (by decide) (E_slices_Clone_byte_byte)
def A_i_byteReader_take : Nat → Option Jn := lookN [(3, ⟨[], lt 5 18 [], false⟩)]
abbrev p_i_byteReader_take : List PK := [.ptr kByteReader, .val false (.int .i64) false]
abbrev r_i_byteReader_take : List RK := [.val false (.sl 5 (.int .u8))]
noncomputable def D_i_byteReader_take (f : Y_i_byteReader_take) : Nat × Fn := (286, ⟨p_i_byteReader_take, r_i_byteReader_take, fun x => f x.1 x.2.1⟩)
noncomputable def F_i_byteReader_take : Fn := (D_i_byteReader_take P_i_byteReader_take).2
theorem E_i_byteReader_take (f_slices_Clone_byte_byte : Y_slices_Clone_byte_byte) : ∀ x, (mkFn cfg [D_slices_Clone_byte_byte f_slices_Clone_byte_byte] A_i_byteReader_take 50 [.tmp 4] (Tryz.f286.body.getD .skip) p_i_byteReader_take r_i_byteReader_take).fn x = B_i_byteReader_take f_slices_Clone_byte_byte x.1 x.2.1 := by intro x; kernel_rfl
theorem S_i_byteReader_take : Sound Tryz.prog 286 F_i_byteReader_take := sm MO cfg_ok (tc Tryz.call191 S_slices_Clone_byte_byte tab_nil) Tryz.func286 (by kernel_rfl) (by decide) (E_i_byteReader_take P_slices_Clone_byte_byte)
def A_i_idOk : Nat → Option Jn := lookN [(3, ⟨[], lt 3 30 [], false⟩), (26, ⟨[.t 3 false [.int .i64]], lt 4 29 [], false⟩)]
abbrev p_i_idOk : List PK := [.val false .str false]
abbrev r_i_idOk : List RK := [.val false .bool]
noncomputable def D_i_idOk (f : Y_i_idOk) : Nat × Fn := (147, ⟨p_i_idOk, r_i_idOk, fun x => f x.1⟩)
noncomputable def F_i_idOk : Fn := (D_i_idOk P_i_idOk).2
theorem E_i_idOk (f_i_inRange : Y_i_inRange) : ∀ x, (mkFn cfg [D_i_inRange f_i_inRange] A_i_idOk 36 [.tmp 2] (Tryz.f147.body.getD .skip) p_i_idOk r_i_idOk).fn x = B_i_idOk f_i_inRange x.1 := by intro x; kernel_rfl
theorem S_i_idOk : Sound Tryz.prog 147 F_i_idOk := sm MO cfg_ok (tc Tryz.call80 S_i_inRange tab_nil) Tryz.func147 (by kernel_rfl) (by decide) (E_i_idOk P_i_inRange)
def A_i_RecOk : Nat → Option Jn := lookN [(3, ⟨[], lt 3 22 [], false⟩)]
abbrev p_i_RecOk : List PK := [.val true (.pair (.int .i64) (.pair (.int .i64) (.pair (.int .i64) (.pair .str (.pair (.int .i64) (.rs 5 (.int .u8))))))) false]
abbrev r_i_RecOk : List RK := [.val false .bool]
noncomputable def D_i_RecOk (f : Y_i_RecOk) : Nat × Fn := (287, ⟨p_i_RecOk, r_i_RecOk, fun x => f x.1⟩)
noncomputable def F_i_RecOk : Fn := (D_i_RecOk P_i_RecOk).2
theorem E_i_RecOk (f_i_inRange : Y_i_inRange) (f_i_idOk : Y_i_idOk) (f_i_isEpoch : Y_i_isEpoch) : ∀ x, (mkFn cfg [D_i_inRange f_i_inRange, D_i_idOk f_i_idOk, D_i_isEpoch f_i_isEpoch] A_i_RecOk 58 [.tmp 2] (Tryz.f287.body.getD .skip) p_i_RecOk r_i_RecOk).fn x = B_i_RecOk f_i_inRange f_i_idOk f_i_isEpoch x.1 := by intro x; kernel_rfl
theorem S_i_RecOk : Sound Tryz.prog 287 F_i_RecOk := sm MO cfg_ok (tc Tryz.call80 S_i_inRange (tc Tryz.call147 S_i_idOk (tc Tryz.call168 S_i_isEpoch tab_nil))) Tryz.func287 (by kernel_rfl) (by decide) (E_i_RecOk P_i_inRange P_i_idOk P_i_isEpoch)
def A_i_Crc : Nat → Option Jn := lookN [(7, ⟨[.t 3 false [.int .u32]], lt 5 24 [], true⟩), (58, ⟨[.t 3 false [.int .u32], .t 9 false [.int .i64]], lt 10 19 [.t 5, .t 6], false⟩), (29902, ⟨[.t 3 false [.int .u32], .t 17 false [.int .i64]], lt 18 10 [.t 6], false⟩)]
abbrev p_i_Crc : List PK := [.val false (.rs 5 (.int .u8)) false]
abbrev r_i_Crc : List RK := [.val false (.int .i64)]
noncomputable def D_i_Crc (f : Y_i_Crc) : Nat × Fn := (280, ⟨p_i_Crc, r_i_Crc, fun x => f x.1⟩)
noncomputable def F_i_Crc : Fn := (D_i_Crc P_i_Crc).2
theorem E_i_Crc : ∀ x, (mkFn cfg [] A_i_Crc 32 [.tmp 2] (Tryz.f280.body.getD .skip) p_i_Crc r_i_Crc).fn x = B_i_Crc x.1 := by intro x; kernel_rfl
theorem S_i_Crc : Sound Tryz.prog 280 F_i_Crc := sm MO cfg_ok tab_nil Tryz.func280 (by kernel_rfl) (by decide) (E_i_Crc)
def A_i_putBig : Nat → Option Jn := lookN [(58, ⟨[.t 0 false [.own 100000000], .t 7 false [.int .i64], .r 100000000 5 (.int .u8)], lt 12 13 [.r 23, .r 24, .r 1000], false⟩)]
abbrev p_i_putBig : List PK := [.val false (.sl 5 (.int .u8)) false, .val false (.int .i64) false, .val false (.int .i64) false]
abbrev r_i_putBig : List RK := [.val false (.sl 5 (.int .u8))]
noncomputable def D_i_putBig (f : Y_i_putBig) : Nat × Fn := (308, ⟨p_i_putBig, r_i_putBig, fun x => f x.1 x.2.1 x.2.2.1⟩)
noncomputable def F_i_putBig : Fn := (D_i_putBig P_i_putBig).2
theorem E_i_putBig : ∀ x, (mkFn cfg [] A_i_putBig 26 [.tmp 6] (Tryz.f308.body.getD .skip) p_i_putBig r_i_putBig).fn x = B_i_putBig x.1 x.2.1 x.2.2.1 := by intro x; kernel_rfl
theorem S_i_putBig : Sound Tryz.prog 308 F_i_putBig := sm MO cfg_ok tab_nil Tryz.func308 (by kernel_rfl) (by decide) (E_i_putBig)
abbrev p_i_PutRec : List PK := [.val true (.pair (.int .i64) (.pair (.int .i64) (.pair (.int .i64) (.pair .str (.pair (.int .i64) (.rs 5 (.int .u8))))))) false]
abbrev r_i_PutRec : List RK := [.val false .str]
noncomputable def D_i_PutRec (f : Y_i_PutRec) : Nat × Fn := (288, ⟨p_i_PutRec, r_i_PutRec, fun x => f x.1⟩)
noncomputable def F_i_PutRec : Fn := (D_i_PutRec P_i_PutRec).2
theorem E_i_PutRec (f_i_Crc : Y_i_Crc) (f_i_RecOk : Y_i_RecOk) (f_i_putBig : Y_i_putBig) : ∀ x, (mkFn cfg [D_i_Crc f_i_Crc, D_i_RecOk f_i_RecOk, D_i_putBig f_i_putBig] (lookN []) 45 [.tmp 2] (Tryz.f288.body.getD .skip) p_i_PutRec r_i_PutRec).fn x = B_i_PutRec f_i_Crc f_i_RecOk f_i_putBig x.1 := by intro x; kernel_rfl
theorem S_i_PutRec : Sound Tryz.prog 288 F_i_PutRec := sm MO cfg_ok (tc Tryz.call280 S_i_Crc (tc Tryz.call287 S_i_RecOk (tc Tryz.call308 S_i_putBig tab_nil))) Tryz.func288 (by kernel_rfl) (by decide) (E_i_PutRec P_i_Crc P_i_RecOk P_i_putBig)
abbrev p_i_GetRec : List PK := [.val false .str false]
abbrev r_i_GetRec : List RK := [.val true kRec, .val false .bool]
noncomputable def D_i_GetRec (f : Y_i_GetRec) : Nat × Fn := (238, ⟨p_i_GetRec, r_i_GetRec, fun x => f x.1⟩)
noncomputable def F_i_GetRec : Fn := (D_i_GetRec P_i_GetRec).2
theorem E_i_GetRec (f_i_byteReader_number : Y_i_byteReader_number) (f_i_byteReader_take : Y_i_byteReader_take) (f_i_RecOk : Y_i_RecOk) (f_i_PutRec : Y_i_PutRec) : ∀ x, (mkFn cfg [D_i_byteReader_number f_i_byteReader_number, D_i_byteReader_take f_i_byteReader_take, D_i_RecOk f_i_RecOk, D_i_PutRec f_i_PutRec] (lookN []) 42 [.cell 2 194, .tmp 3] (Tryz.f238.body.getD .skip) p_i_GetRec r_i_GetRec).fn x = B_i_GetRec f_i_byteReader_number f_i_byteReader_take f_i_RecOk f_i_PutRec x.1 := by intro x; kernel_rfl
theorem S_i_GetRec : Sound Tryz.prog 238 F_i_GetRec := sm MO cfg_ok (tc Tryz.call285 S_i_byteReader_number (tc Tryz.call286 S_i_byteReader_take (tc Tryz.call287 S_i_RecOk (tc Tryz.call288 S_i_PutRec tab_nil)))) Tryz.func238 (by kernel_rfl) (by decide) (E_i_GetRec P_i_byteReader_number P_i_byteReader_take P_i_RecOk P_i_PutRec)
def A_i_ScanRecs : Nat → Option Jn := lookN [(122, ⟨[.t 3 false [.own 100000000], .t 4 false [.int .i64], .t 12 false [.int .i64], .r 100000000 194 kRec], lt 13 30 (lt 5 4 [.b 7, .r 38, .r 39, .r 81925]), false⟩)]
abbrev p_i_ScanRecs : List PK := [.val true (.pair (.rs 9 .str) (.rs 9 .str)) false]
abbrev r_i_ScanRecs : List RK := [.val false (.sl 194 kRec)]
noncomputable def D_i_ScanRecs (f : Y_i_ScanRecs) : Nat × Fn := (170, ⟨p_i_ScanRecs, r_i_ScanRecs, fun x => f x.1⟩)
noncomputable def F_i_ScanRecs : Fn := (D_i_ScanRecs P_i_ScanRecs).2
theorem E_i_ScanRecs (f_i_GetRec : Y_i_GetRec) : ∀ x, (mkFn cfg [D_i_GetRec f_i_GetRec] A_i_ScanRecs 44 [.tmp 2] (Tryz.f170.body.getD .skip) p_i_ScanRecs r_i_ScanRecs).fn x = B_i_ScanRecs f_i_GetRec x.1 := by intro x; kernel_rfl
theorem S_i_ScanRecs : Sound Tryz.prog 170 F_i_ScanRecs := sm MO cfg_ok (tc Tryz.call238 S_i_GetRec tab_nil) Tryz.func170 (by kernel_rfl) (by decide) (E_i_ScanRecs P_i_GetRec)
def A_i_upAt : Nat → Option Jn := lookN [(7, ⟨[.t 6 false [.int .i64]], lt 7 15 [], true⟩), (28, ⟨[.t 6 false [.int .i64]], lt 7 15 [], false⟩)]
abbrev p_i_upAt : List PK := [.val false (.rs 109 kUp) false, .val false .str false]
abbrev r_i_upAt : List RK := [.val false (.int .i64), .val false .bool]
noncomputable def D_i_upAt (f : Y_i_upAt) : Nat × Fn := (289, ⟨p_i_upAt, r_i_upAt, fun x => f x.1 x.2.1⟩)
noncomputable def F_i_upAt : Fn := (D_i_upAt P_i_upAt).2
theorem E_i_upAt : ∀ x, (mkFn cfg [] A_i_upAt 36 [.tmp 4, .tmp 5] (Tryz.f289.body.getD .skip) p_i_upAt r_i_upAt).fn x = B_i_upAt x.1 x.2.1 := by intro x; kernel_rfl
theorem S_i_upAt : Sound Tryz.prog 289 F_i_upAt := sm MO cfg_ok tab_nil Tryz.func289 (by kernel_rfl) (by decide) (E_i_upAt)
def A_i_fold : Nat → Option Jn := lookN [(58, ⟨[], lt 19 6 [], false⟩), (2026, ⟨[], lt 43 30 [], false⟩)]
abbrev p_i_fold : List PK := [.val false (.sl 109 kUp) false, .val true (.pair (.int .i64) (.pair (.int .i64) (.pair (.int .i64) (.pair .str (.pair (.int .i64) (.rs 5 (.int .u8))))))) false]
abbrev r_i_fold : List RK := [.val false (.sl 109 kUp), .val false .bool]
noncomputable def D_i_fold (f : Y_i_fold) : Nat × Fn := (239, ⟨p_i_fold, r_i_fold, fun x => f x.1 x.2.1⟩)
noncomputable def F_i_fold : Fn := (D_i_fold P_i_fold).2
theorem E_i_fold (f_i_upAt : Y_i_upAt) (f_slices_Insert_impl_Up_impl_Up : Y_slices_Insert_impl_Up_impl_Up) (f_slices_Delete_impl_Up_impl_Up : Y_slices_Delete_impl_Up_impl_Up) : ∀ x, (mkFn cfg [D_i_upAt f_i_upAt, D_slices_Insert_impl_Up_impl_Up f_slices_Insert_impl_Up_impl_Up, D_slices_Delete_impl_Up_impl_Up f_slices_Delete_impl_Up_impl_Up] A_i_fold 113 [.tmp 4, .tmp 5] (Tryz.f239.body.getD .skip) p_i_fold r_i_fold).fn x = B_i_fold f_i_upAt f_slices_Insert_impl_Up_impl_Up f_slices_Delete_impl_Up_impl_Up x.1 x.2.1 := by intro x; kernel_rfl
theorem S_i_fold : Sound Tryz.prog 239 F_i_fold := sm MO cfg_ok (tc Tryz.call289 S_i_upAt (tc Tryz.call290 S_slices_Insert_impl_Up_impl_Up (tc Tryz.call291 S_slices_Delete_impl_Up_impl_Up tab_nil))) Tryz.func239 (by kernel_rfl) (by decide) (E_i_fold P_i_upAt P_slices_Insert_impl_Up_impl_Up P_slices_Delete_impl_Up_impl_Up)
def A_i_FoldRecs : Nat → Option Jn := lookN [(7, ⟨[.t 4 false [.own 100000000], .r 100000000 109 kUp], lt 6 19 [.b 6, .r 77824], false⟩), (58, ⟨[.t 4 false [.own 100000000], .t 11 false [.int .i64], .r 100000000 109 kUp], lt 12 13 (lt 6 3 [.b 6, .r 77824]), false⟩)]
abbrev p_i_FoldRecs : List PK := [.val false (.rs 194 kRec) false]
abbrev r_i_FoldRecs : List RK := [.val false (.sl 109 kUp), .val false .bool]
noncomputable def D_i_FoldRecs (f : Y_i_FoldRecs) : Nat × Fn := (171, ⟨p_i_FoldRecs, r_i_FoldRecs, fun x => f x.1⟩)
noncomputable def F_i_FoldRecs : Fn := (D_i_FoldRecs P_i_FoldRecs).2
theorem E_i_FoldRecs (f_i_fold : Y_i_fold) : ∀ x, (mkFn cfg [D_i_fold f_i_fold] A_i_FoldRecs 26 [.tmp 2, .tmp 3] (Tryz.f171.body.getD .skip) p_i_FoldRecs r_i_FoldRecs).fn x = B_i_FoldRecs f_i_fold x.1 := by intro x; kernel_rfl
theorem S_i_FoldRecs : Sound Tryz.prog 171 F_i_FoldRecs := sm MO cfg_ok (tc Tryz.call239 S_i_fold tab_nil) Tryz.func171 (by kernel_rfl) (by decide) (E_i_FoldRecs P_i_fold)
def A_i_topFrom : Nat → Option Jn := lookN [(58, ⟨[.t 3 false [.int .i64], .t 10 false [.int .i64]], lt 11 14 (lt 5 3 [.b 6, .r 69637]), false⟩)]
abbrev p_i_topFrom : List PK := [.val false (.rs 9 .str) false]
abbrev r_i_topFrom : List RK := [.val false (.int .i64)]
noncomputable def D_i_topFrom (f : Y_i_topFrom) : Nat × Fn := (174, ⟨p_i_topFrom, r_i_topFrom, fun x => f x.1⟩)
noncomputable def F_i_topFrom : Fn := (D_i_topFrom P_i_topFrom).2
theorem E_i_topFrom (f_i_GetRec : Y_i_GetRec) : ∀ x, (mkFn cfg [D_i_GetRec f_i_GetRec] A_i_topFrom 26 [.tmp 2] (Tryz.f174.body.getD .skip) p_i_topFrom r_i_topFrom).fn x = B_i_topFrom f_i_GetRec x.1 := by intro x; kernel_rfl
theorem S_i_topFrom : Sound Tryz.prog 174 F_i_topFrom := sm MO cfg_ok (tc Tryz.call238 S_i_GetRec tab_nil) Tryz.func174 (by kernel_rfl) (by decide) (E_i_topFrom P_i_GetRec)
abbrev p_bytes_Equal : List PK := [.val false (.rs 5 (.int .u8)) false, .val false (.rs 5 (.int .u8)) false]
abbrev r_bytes_Equal : List RK := [.val false .bool]
noncomputable def D_bytes_Equal (f : Y_bytes_Equal) : Nat × Fn := (77, ⟨p_bytes_Equal, r_bytes_Equal, fun x => f x.1 x.2.1⟩)
noncomputable def F_bytes_Equal : Fn := (D_bytes_Equal P_bytes_Equal).2
theorem E_bytes_Equal : ∀ x, (mkFn cfg [] (lookN []) 10 [.tmp 4] (Tryz.f77.body.getD .skip) p_bytes_Equal r_bytes_Equal).fn x = B_bytes_Equal x.1 x.2.1 := by intro x; kernel_rfl
theorem S_bytes_Equal : Sound Tryz.prog 77 F_bytes_Equal := sm MO cfg_ok tab_nil Tryz.func77 (by kernel_rfl) (by decide) (E_bytes_Equal)
abbrev p_i_sameUp : List PK := [.val true (.pair .str (.pair (.int .i64) (.pair (.rs 5 (.int .u8)) .bool))) false, .val true (.pair .str (.pair (.int .i64) (.pair (.rs 5 (.int .u8)) .bool))) false]
abbrev r_i_sameUp : List RK := [.val false .bool]
noncomputable def D_i_sameUp (f : Y_i_sameUp) : Nat × Fn := (173, ⟨p_i_sameUp, r_i_sameUp, fun x => f x.1 x.2.1⟩)
noncomputable def F_i_sameUp : Fn := (D_i_sameUp P_i_sameUp).2
theorem E_i_sameUp (f_bytes_Equal : Y_bytes_Equal) : ∀ x, (mkFn cfg [D_bytes_Equal f_bytes_Equal] (lookN []) 31 [.tmp 4] (Tryz.f173.body.getD .skip) p_i_sameUp r_i_sameUp).fn x = B_i_sameUp f_bytes_Equal x.1 x.2.1 := by intro x; kernel_rfl
theorem S_i_sameUp : Sound Tryz.prog 173 F_i_sameUp := sm MO cfg_ok (tc Tryz.call77 S_bytes_Equal tab_nil) Tryz.func173 (by kernel_rfl) (by decide) (E_i_sameUp P_bytes_Equal)
def A_slices_EqualFunc_impl_Up_impl_Up_impl_Up_impl_Up_r1002_173 : Nat → Option Jn := lookN [(58, ⟨[.t 17 false [.int .i64]], lt 18 14 (lt 7 3 [.b 8, .b 9]), false⟩)]
abbrev p_slices_EqualFunc_impl_Up_impl_Up_impl_Up_impl_Up_r1002_173 : List PK := [.val false (.rs 109 kUp) false, .val false (.rs 109 kUp) false, .val false (.fnc 173) false]
abbrev r_slices_EqualFunc_impl_Up_impl_Up_impl_Up_impl_Up_r1002_173 : List RK := [.val false .bool]
noncomputable def D_slices_EqualFunc_impl_Up_impl_Up_impl_Up_impl_Up_r1002_173 (f : Y_slices_EqualFunc_impl_Up_impl_Up_impl_Up_impl_Up_r1002_173) : Nat × Fn := (172, ⟨p_slices_EqualFunc_impl_Up_impl_Up_impl_Up_impl_Up_r1002_173, r_slices_EqualFunc_impl_Up_impl_Up_impl_Up_impl_Up_r1002_173, fun x => f x.1 x.2.1 x.2.2.1⟩)
noncomputable def F_slices_EqualFunc_impl_Up_impl_Up_impl_Up_impl_Up_r1002_173 : Fn := (D_slices_EqualFunc_impl_Up_impl_Up_impl_Up_impl_Up_r1002_173 P_slices_EqualFunc_impl_Up_impl_Up_impl_Up_impl_Up_r1002_173).2
theorem E_slices_EqualFunc_impl_Up_impl_Up_impl_Up_impl_Up_r1002_173 (f_i_sameUp : Y_i_sameUp) : ∀ x, (mkFn cfg [D_i_sameUp f_i_sameUp] A_slices_EqualFunc_impl_Up_impl_Up_impl_Up_impl_Up_r1002_173 32 [.tmp 6] (Tryz.f172.body.getD .skip) p_slices_EqualFunc_impl_Up_impl_Up_impl_Up_impl_Up_r1002_173 r_slices_EqualFunc_impl_Up_impl_Up_impl_Up_impl_Up_r1002_173).fn x = B_slices_EqualFunc_impl_Up_impl_Up_impl_Up_impl_Up_r1002_173 f_i_sameUp x.1 x.2.1 x.2.2.1 := by intro x; kernel_rfl
theorem S_slices_EqualFunc_impl_Up_impl_Up_impl_Up_impl_Up_r1002_173 : Sound Tryz.prog 172 F_slices_EqualFunc_impl_Up_impl_Up_impl_Up_impl_Up_r1002_173 := sm MO cfg_ok (tc Tryz.call173 S_i_sameUp tab_nil) Tryz.func172 (by kernel_rfl) (by decide) (E_slices_EqualFunc_impl_Up_impl_Up_impl_Up_impl_Up_r1002_173 P_i_sameUp)
def A_i_StoreOk : Nat → Option Jn := lookN [(3, ⟨[], lt 6 10 [], false⟩), (31, ⟨[], lt 24 16 [], false⟩), (63, ⟨[], lt 40 15 [.x 50], false⟩)]
abbrev p_i_StoreOk : List PK := [.val true (.pair (.pair (.rs 9 .str) (.rs 9 .str)) (.pair (.int .i64) (.pair (.int .i64) (.rs 109 kUp)))) false]
abbrev r_i_StoreOk : List RK := [.val false .bool]
noncomputable def D_i_StoreOk (f : Y_i_StoreOk) : Nat × Fn := (94, ⟨p_i_StoreOk, r_i_StoreOk, fun x => f x.1⟩)
noncomputable def F_i_StoreOk : Fn := (D_i_StoreOk P_i_StoreOk).2
theorem E_i_StoreOk (f_i_isEpoch : Y_i_isEpoch) (f_i_DiskOk : Y_i_DiskOk) (f_i_ScanRecs : Y_i_ScanRecs) (f_i_FoldRecs : Y_i_FoldRecs) (f_slices_EqualFunc_impl_Up_impl_Up_impl_Up_impl_Up_r1002_173 : Y_slices_EqualFunc_impl_Up_impl_Up_impl_Up_impl_Up_r1002_173) (f_i_topFrom : Y_i_topFrom) : ∀ x, (mkFn cfg [D_i_isEpoch f_i_isEpoch, D_i_DiskOk f_i_DiskOk, D_i_ScanRecs f_i_ScanRecs, D_i_FoldRecs f_i_FoldRecs, D_slices_EqualFunc_impl_Up_impl_Up_impl_Up_impl_Up_r1002_173 f_slices_EqualFunc_impl_Up_impl_Up_impl_Up_impl_Up_r1002_173, D_i_topFrom f_i_topFrom] A_i_StoreOk 65 [.tmp 2] (Tryz.f94.body.getD .skip) p_i_StoreOk r_i_StoreOk).fn x = B_i_StoreOk f_i_isEpoch f_i_DiskOk f_i_ScanRecs f_i_FoldRecs f_slices_EqualFunc_impl_Up_impl_Up_impl_Up_impl_Up_r1002_173 f_i_topFrom x.1 := by intro x; kernel_rfl
theorem S_i_StoreOk : Sound Tryz.prog 94 F_i_StoreOk := sm MO cfg_ok (tc Tryz.call168 S_i_isEpoch (tc Tryz.call169 S_i_DiskOk (tc Tryz.call170 S_i_ScanRecs (tc Tryz.call171 S_i_FoldRecs (tc Tryz.call172 S_slices_EqualFunc_impl_Up_impl_Up_impl_Up_impl_Up_r1002_173 (tc Tryz.call174 S_i_topFrom tab_nil)))))) Tryz.func94 (by kernel_rfl) (by decide) (E_i_StoreOk P_i_isEpoch P_i_DiskOk P_i_ScanRecs P_i_FoldRecs P_slices_EqualFunc_impl_Up_impl_Up_impl_Up_impl_Up_r1002_173 P_i_topFrom)
def A_i_ServerOk : Nat → Option Jn := lookN [(3, ⟨[], lt 4 13 [.b 4], false⟩), (26, ⟨[.t 8 false [.int .i64]], lt 9 8 [.b 4, .t 4], false⟩)]
abbrev p_i_ServerOk : List PK := [.val true (.pair (.pair (.pair (.rs 9 .str) (.rs 9 .str)) (.pair (.int .i64) (.pair (.int .i64) (.rs 109 kUp)))) (.rs 130 kHeld)) false]
abbrev r_i_ServerOk : List RK := [.val false .bool]
noncomputable def D_i_ServerOk (f : Y_i_ServerOk) : Nat × Fn := (28, ⟨p_i_ServerOk, r_i_ServerOk, fun x => f x.1⟩)
noncomputable def F_i_ServerOk : Fn := (D_i_ServerOk P_i_ServerOk).2
theorem E_i_ServerOk (f_i_RespOk : Y_i_RespOk) (f_i_StoreOk : Y_i_StoreOk) : ∀ x, (mkFn cfg [D_i_RespOk f_i_RespOk, D_i_StoreOk f_i_StoreOk] A_i_ServerOk 26 [.tmp 2] (Tryz.f28.body.getD .skip) p_i_ServerOk r_i_ServerOk).fn x = B_i_ServerOk f_i_RespOk f_i_StoreOk x.1 := by intro x; kernel_rfl
theorem S_i_ServerOk : Sound Tryz.prog 28 F_i_ServerOk := sm MO cfg_ok (tc Tryz.call93 S_i_RespOk (tc Tryz.call94 S_i_StoreOk tab_nil)) Tryz.func28 (by kernel_rfl) (by decide) (E_i_ServerOk P_i_RespOk P_i_StoreOk)
abbrev p_i_copyUp : List PK := [.val true (.pair .str (.pair (.int .i64) (.pair (.rs 5 (.int .u8)) .bool))) false]
abbrev r_i_copyUp : List RK := [.val true kUp]
noncomputable def D_i_copyUp (f : Y_i_copyUp) : Nat × Fn := (144, ⟨p_i_copyUp, r_i_copyUp, fun x => f x.1⟩)
noncomputable def F_i_copyUp : Fn := (D_i_copyUp P_i_copyUp).2
theorem E_i_copyUp (f_slices_Clone_byte_byte : Y_slices_Clone_byte_byte) : ∀ x, (mkFn cfg [D_slices_Clone_byte_byte f_slices_Clone_byte_byte] (lookN []) 8 [.cell 2 109] (Tryz.f144.body.getD .skip) p_i_copyUp r_i_copyUp).fn x = B_i_copyUp f_slices_Clone_byte_byte x.1 := by intro x; kernel_rfl
theorem S_i_copyUp : Sound Tryz.prog 144 F_i_copyUp := sm MO cfg_ok (tc Tryz.call191 S_slices_Clone_byte_byte tab_nil) Tryz.func144 (by kernel_rfl) (by decide) (E_i_copyUp P_slices_Clone_byte_byte)
abbrev p_slices_Clone_string_string : List PK := [.val false (.rs 9 .str) false]
abbrev r_slices_Clone_string_string : List RK := [.val false (.sl 9 .str)]
noncomputable def D_slices_Clone_string_string (f : Y_slices_Clone_string_string) : Nat × Fn := (275, ⟨p_slices_Clone_string_string, r_slices_Clone_string_string, fun x => f x.1⟩)
noncomputable def F_slices_Clone_string_string : Fn := (D_slices_Clone_string_string P_slices_Clone_string_string).2
theorem E_slices_Clone_string_string : ∀ x, (mkFn cfg [] (lookN []) 8 [.tmp 2] (Tryz.f275.body.getD .skip) p_slices_Clone_string_string r_slices_Clone_string_string).fn x = B_slices_Clone_string_string x.1 := by intro x; kernel_rfl
theorem S_slices_Clone_string_string : Sound Tryz.prog 275 F_slices_Clone_string_string := sm MO cfg_ok tab_nil Tryz.func275 (by kernel_rfl) (by decide) (E_slices_Clone_string_string)
abbrev p_i_copyDisk : List PK := [.val true (.pair (.rs 9 .str) (.rs 9 .str)) false]
abbrev r_i_copyDisk : List RK := [.val true kDisk]
noncomputable def D_i_copyDisk (f : Y_i_copyDisk) : Nat × Fn := (221, ⟨p_i_copyDisk, r_i_copyDisk, fun x => f x.1⟩)
noncomputable def F_i_copyDisk : Fn := (D_i_copyDisk P_i_copyDisk).2
theorem E_i_copyDisk (f_slices_Clone_string_string : Y_slices_Clone_string_string) : ∀ x, (mkFn cfg [D_slices_Clone_string_string f_slices_Clone_string_string] (lookN []) 10 [.cell 2 26] (Tryz.f221.body.getD .skip) p_i_copyDisk r_i_copyDisk).fn x = B_i_copyDisk f_slices_Clone_string_string x.1 := by intro x; kernel_rfl
theorem S_i_copyDisk : Sound Tryz.prog 221 F_i_copyDisk := sm MO cfg_ok (tc Tryz.call275 S_slices_Clone_string_string tab_nil) Tryz.func221 (by kernel_rfl) (by decide) (E_i_copyDisk P_slices_Clone_string_string)
def A_i_copyStore : Nat → Option Jn := lookN [(58, ⟨[.t 17 false [.int .i64], .b 3 [.own 36864, .own 36865, .int .i64, .int .i64, .own 100000000], .r 36864 9 .str, .r 36865 9 .str, .r 100000000 109 kUp], lt 18 11 [.b 5, .r 25, .r 26, .r 102402, .t 5], false⟩)]
abbrev p_i_copyStore : List PK := [.val true (.pair (.pair (.rs 9 .str) (.rs 9 .str)) (.pair (.int .i64) (.pair (.int .i64) (.rs 109 kUp)))) false]
abbrev r_i_copyStore : List RK := [.val true kStore]
noncomputable def D_i_copyStore (f : Y_i_copyStore) : Nat × Fn := (154, ⟨p_i_copyStore, r_i_copyStore, fun x => f x.1⟩)
noncomputable def F_i_copyStore : Fn := (D_i_copyStore P_i_copyStore).2
theorem E_i_copyStore (f_i_copyUp : Y_i_copyUp) (f_i_copyDisk : Y_i_copyDisk) : ∀ x, (mkFn cfg [D_i_copyUp f_i_copyUp, D_i_copyDisk f_i_copyDisk] A_i_copyStore 30 [.cell 2 29] (Tryz.f154.body.getD .skip) p_i_copyStore r_i_copyStore).fn x = B_i_copyStore f_i_copyUp f_i_copyDisk x.1 := by intro x; kernel_rfl
theorem S_i_copyStore : Sound Tryz.prog 154 F_i_copyStore := sm MO cfg_ok (tc Tryz.call144 S_i_copyUp (tc Tryz.call221 S_i_copyDisk tab_nil)) Tryz.func154 (by kernel_rfl) (by decide) (E_i_copyStore P_i_copyUp P_i_copyDisk)
abbrev p_slices_Clone_impl_Held_impl_Held : List PK := [.val false (.rs 130 kHeld) false]
abbrev r_slices_Clone_impl_Held_impl_Held : List RK := [.val false (.sl 130 kHeld)]
noncomputable def D_slices_Clone_impl_Held_impl_Held (f : Y_slices_Clone_impl_Held_impl_Held) : Nat × Fn := (155, ⟨p_slices_Clone_impl_Held_impl_Held, r_slices_Clone_impl_Held_impl_Held, fun x => f x.1⟩)
noncomputable def F_slices_Clone_impl_Held_impl_Held : Fn := (D_slices_Clone_impl_Held_impl_Held P_slices_Clone_impl_Held_impl_Held).2
theorem E_slices_Clone_impl_Held_impl_Held : ∀ x, (mkFn cfg [] (lookN []) 8 [.tmp 2] (Tryz.f155.body.getD .skip) p_slices_Clone_impl_Held_impl_Held r_slices_Clone_impl_Held_impl_Held).fn x = B_slices_Clone_impl_Held_impl_Held x.1 := by intro x; kernel_rfl
theorem S_slices_Clone_impl_Held_impl_Held : Sound Tryz.prog 155 F_slices_Clone_impl_Held_impl_Held := sm MO cfg_ok tab_nil Tryz.func155 (by kernel_rfl) (by decide) (E_slices_Clone_impl_Held_impl_Held)
abbrev p_i_copyServer : List PK := [.val true (.pair (.pair (.pair (.rs 9 .str) (.rs 9 .str)) (.pair (.int .i64) (.pair (.int .i64) (.rs 109 kUp)))) (.rs 130 kHeld)) false]
abbrev r_i_copyServer : List RK := [.val true kServer]
noncomputable def D_i_copyServer (f : Y_i_copyServer) : Nat × Fn := (87, ⟨p_i_copyServer, r_i_copyServer, fun x => f x.1⟩)
noncomputable def F_i_copyServer : Fn := (D_i_copyServer P_i_copyServer).2
theorem E_i_copyServer (f_i_copyStore : Y_i_copyStore) (f_slices_Clone_impl_Held_impl_Held : Y_slices_Clone_impl_Held_impl_Held) : ∀ x, (mkFn cfg [D_i_copyStore f_i_copyStore, D_slices_Clone_impl_Held_impl_Held f_slices_Clone_impl_Held_impl_Held] (lookN []) 10 [.cell 2 32] (Tryz.f87.body.getD .skip) p_i_copyServer r_i_copyServer).fn x = B_i_copyServer f_i_copyStore f_slices_Clone_impl_Held_impl_Held x.1 := by intro x; kernel_rfl
theorem S_i_copyServer : Sound Tryz.prog 87 F_i_copyServer := sm MO cfg_ok (tc Tryz.call154 S_i_copyStore (tc Tryz.call155 S_slices_Clone_impl_Held_impl_Held tab_nil)) Tryz.func87 (by kernel_rfl) (by decide) (E_i_copyServer P_i_copyStore P_slices_Clone_impl_Held_impl_Held)
abbrev p_i_numberField : List PK := [.val false (.int .i64) false]
abbrev r_i_numberField : List RK := [.val false .str, .val false (.int .i64)]
noncomputable def D_i_numberField (f : Y_i_numberField) : Nat × Fn := (146, ⟨p_i_numberField, r_i_numberField, fun x => f x.1⟩)
noncomputable def F_i_numberField : Fn := (D_i_numberField P_i_numberField).2
theorem E_i_numberField : ∀ x, (mkFn cfg [] (lookN []) 11 [.tmp 2, .tmp 3] (Tryz.f146.body.getD .skip) p_i_numberField r_i_numberField).fn x = B_i_numberField x.1 := by intro x; kernel_rfl
theorem S_i_numberField : Sound Tryz.prog 146 F_i_numberField := sm MO cfg_ok tab_nil Tryz.func146 (by kernel_rfl) (by decide) (E_i_numberField)
abbrev p_i_ReqOk : List PK := [.val true kReq false]
abbrev r_i_ReqOk : List RK := [.val false .bool]
noncomputable def D_i_ReqOk (f : Y_i_ReqOk) : Nat × Fn := (79, ⟨p_i_ReqOk, r_i_ReqOk, fun x => f x.1⟩)
noncomputable def F_i_ReqOk : Fn := (D_i_ReqOk P_i_ReqOk).2
theorem E_i_ReqOk (f_i_inRange : Y_i_inRange) (f_i_numberField : Y_i_numberField) (f_i_idOk : Y_i_idOk) : ∀ x, (mkFn cfg [D_i_inRange f_i_inRange, D_i_numberField f_i_numberField, D_i_idOk f_i_idOk] (lookN []) 25 [.tmp 2] (Tryz.f79.body.getD .skip) p_i_ReqOk r_i_ReqOk).fn x = B_i_ReqOk f_i_inRange f_i_numberField f_i_idOk x.1 := by intro x; kernel_rfl
theorem S_i_ReqOk : Sound Tryz.prog 79 F_i_ReqOk := sm MO cfg_ok (tc Tryz.call80 S_i_inRange (tc Tryz.call146 S_i_numberField (tc Tryz.call147 S_i_idOk tab_nil))) Tryz.func79 (by kernel_rfl) (by decide) (E_i_ReqOk P_i_inRange P_i_numberField P_i_idOk)
abbrev p_i_Store_left : List PK := [.ptr kStore]
abbrev r_i_Store_left : List RK := [.val false (.int .i64)]
noncomputable def D_i_Store_left (f : Y_i_Store_left) : Nat × Fn := (277, ⟨p_i_Store_left, r_i_Store_left, fun x => f x.1⟩)
noncomputable def F_i_Store_left : Fn := (D_i_Store_left P_i_Store_left).2
theorem E_i_Store_left : ∀ x, (mkFn cfg [] (lookN []) 14 [.tmp 2] (Tryz.f277.body.getD .skip) p_i_Store_left r_i_Store_left).fn x = B_i_Store_left x.1 := by intro x; kernel_rfl
theorem S_i_Store_left : Sound Tryz.prog 277 F_i_Store_left := sm MO cfg_ok tab_nil Tryz.func277 (by kernel_rfl) (by decide) (E_i_Store_left)
abbrev p_i_Store_write_r97_0 : List PK := [.ptr kStore, .val false (.int .i64) false, .val false .str false, .val false (.int .i64) false, .val false (.rs 5 (.int .u8)) false]
abbrev r_i_Store_write_r97_0 : List RK := []
noncomputable def D_i_Store_write_r97_0 (f : Y_i_Store_write_r97_0) : Nat × Fn := (278, ⟨p_i_Store_write_r97_0, r_i_Store_write_r97_0, fun x => f x.1 x.2.1 x.2.2.1 x.2.2.2.1 x.2.2.2.2.1⟩)
noncomputable def F_i_Store_write_r97_0 : Fn := (D_i_Store_write_r97_0 P_i_Store_write_r97_0).2
theorem E_i_Store_write_r97_0 (f_i_fold : Y_i_fold) (f_i_PutRec : Y_i_PutRec) : ∀ x, (mkFn cfg [D_i_fold f_i_fold, D_i_PutRec f_i_PutRec] (lookN []) 59 [] (Tryz.f278.body.getD .skip) p_i_Store_write_r97_0 r_i_Store_write_r97_0).fn x = B_i_Store_write_r97_0 f_i_fold f_i_PutRec x.1 x.2.1 x.2.2.1 x.2.2.2.1 x.2.2.2.2.1 := by intro x; kernel_rfl
theorem S_i_Store_write_r97_0 : Sound Tryz.prog 278 F_i_Store_write_r97_0 := sm MO cfg_ok (tc Tryz.call239 S_i_fold (tc Tryz.call288 S_i_PutRec tab_nil)) Tryz.func278 (by kernel_rfl) (by decide) (E_i_Store_write_r97_0 P_i_fold P_i_PutRec)
end Go.Proofs.YtpdcljonclhhpaaGreat.Ev
