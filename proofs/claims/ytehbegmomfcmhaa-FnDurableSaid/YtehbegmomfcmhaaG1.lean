/- Each function of the program does what its plain function says. -/
import Derived.Test.YtehbegmomfcmhaaTy
import Derived.Test.YtehbegmomfcmhaaPu
import Derived.Test.YtehbegmomfcmhaaIns
import Derived.Test.YtehbegmomfcmhaaChunk
set_option linter.unusedVariables false
set_option maxRecDepth 100000
namespace Go.Proofs.Ytehbegmomfcmhaa.Ev
abbrev p_slices_Insert_impl_Up_impl_Up : List PK := [.val false (.sl 56 kUp) false, .val false (.int .i64) false, .val false (.sl 56 kUp) false]
abbrev r_slices_Insert_impl_Up_impl_Up : List RK := [.val false (.sl 56 kUp)]
noncomputable def D_slices_Insert_impl_Up_impl_Up (f : Y_slices_Insert_impl_Up_impl_Up) : Nat × Fn := (153, ⟨p_slices_Insert_impl_Up_impl_Up, r_slices_Insert_impl_Up_impl_Up, fun x => f x.1 x.2.1 x.2.2.1⟩)
noncomputable def F_slices_Insert_impl_Up_impl_Up : Fn := (D_slices_Insert_impl_Up_impl_Up P_slices_Insert_impl_Up_impl_Up).2
theorem S_slices_Insert_impl_Up_impl_Up : Sound Try.prog 153 F_slices_Insert_impl_Up_impl_Up := insert_sound kUp (by decide)
abbrev p_slices_Delete_impl_Up_impl_Up : List PK := [.val false (.sl 56 kUp) false, .val false (.int .i64) false, .val false (.int .i64) false]
abbrev r_slices_Delete_impl_Up_impl_Up : List RK := [.val false (.sl 56 kUp)]
noncomputable def D_slices_Delete_impl_Up_impl_Up (f : Y_slices_Delete_impl_Up_impl_Up) : Nat × Fn := (154, ⟨p_slices_Delete_impl_Up_impl_Up, r_slices_Delete_impl_Up_impl_Up, fun x => f x.1 x.2.1 x.2.2.1⟩)
noncomputable def F_slices_Delete_impl_Up_impl_Up : Fn := (D_slices_Delete_impl_Up_impl_Up P_slices_Delete_impl_Up_impl_Up).2
theorem S_slices_Delete_impl_Up_impl_Up : Sound Try.prog 154 F_slices_Delete_impl_Up_impl_Up := delete_sound kUp (by decide)
abbrev p_i_inRange : List PK := [.val false (.int .i64) false, .val false (.int .i64) false, .val false (.int .i64) false]
abbrev r_i_inRange : List RK := [.val false .bool]
noncomputable def D_i_inRange (f : Y_i_inRange) : Nat × Fn := (110, ⟨p_i_inRange, r_i_inRange, fun x => f x.1 x.2.1 x.2.2.1⟩)
noncomputable def F_i_inRange : Fn := (D_i_inRange P_i_inRange).2
theorem E_i_inRange : ∀ x, (mkFn cfg [] (lookN []) 15 [.tmp 6] (Try.f110.body.getD .skip) p_i_inRange r_i_inRange).fn x = B_i_inRange x.1 x.2.1 x.2.2.1 := by intro x; kernel_rfl
theorem S_i_inRange : Sound Try.prog 110 F_i_inRange := sm MO cfg_ok tab_nil Try.func110 (by kernel_rfl) (by decide) (E_i_inRange)
def A_i_GetBig : Nat → Option Jn := lookN [(3, ⟨[], lt 11 15 [], false⟩), (15, ⟨[.t 8 false [.int .i64]], lt 26 17 [.t 10], true⟩), (122, ⟨[.t 8 false [.int .i64], .t 33 false [.int .i64]], lt 34 9 [.t 10], false⟩)]
abbrev p_i_GetBig : List PK := [.val false (.rs 5 (.int .u8)) false, .val false (.int .i64) false, .val false (.int .i64) false]
abbrev r_i_GetBig : List RK := [.val false (.int .i64), .val false .bool]
noncomputable def D_i_GetBig (f : Y_i_GetBig) : Nat × Fn := (160, ⟨p_i_GetBig, r_i_GetBig, fun x => f x.1 x.2.1 x.2.2.1⟩)
noncomputable def F_i_GetBig : Fn := (D_i_GetBig P_i_GetBig).2
theorem E_i_GetBig (f_i_inRange : Y_i_inRange) : ∀ x, (mkFn cfg [D_i_inRange f_i_inRange] A_i_GetBig 44 [.tmp 6, .tmp 7] (Try.f160.body.getD .skip) p_i_GetBig r_i_GetBig).fn x = B_i_GetBig f_i_inRange x.1 x.2.1 x.2.2.1 := by intro x; kernel_rfl
theorem S_i_GetBig : Sound Try.prog 160 F_i_GetBig := sm MO cfg_ok (tc Try.call110 S_i_inRange tab_nil) Try.func160 (by kernel_rfl) (by decide) (E_i_GetBig P_i_inRange)
def A_i_byteReader_number : Nat → Option Jn := lookN [(7, ⟨[], lt 20 8 [], false⟩)]
abbrev p_i_byteReader_number : List PK := [.ptr kByteReader, .val false (.int .i64) false]
abbrev r_i_byteReader_number : List RK := [.val false (.int .i64)]
noncomputable def D_i_byteReader_number (f : Y_i_byteReader_number) : Nat × Fn := (140, ⟨p_i_byteReader_number, r_i_byteReader_number, fun x => f x.1 x.2.1⟩)
noncomputable def F_i_byteReader_number : Fn := (D_i_byteReader_number P_i_byteReader_number).2
theorem E_i_byteReader_number (f_i_GetBig : Y_i_GetBig) : ∀ x, (mkFn cfg [D_i_GetBig f_i_GetBig] A_i_byteReader_number 40 [.tmp 4] (Try.f140.body.getD .skip) p_i_byteReader_number r_i_byteReader_number).fn x = B_i_byteReader_number f_i_GetBig x.1 x.2.1 := by intro x; kernel_rfl
theorem S_i_byteReader_number : Sound Try.prog 140 F_i_byteReader_number := sm MO cfg_ok (tc Try.call160 S_i_GetBig tab_nil) Try.func140 (by kernel_rfl) (by decide) (E_i_byteReader_number P_i_GetBig)
abbrev p_slices_Clone_byte_byte : List PK := [.val false (.rs 5 (.int .u8)) false]
abbrev r_slices_Clone_byte_byte : List RK := [.val false (.sl 5 (.int .u8))]
noncomputable def D_slices_Clone_byte_byte (f : Y_slices_Clone_byte_byte) : Nat × Fn := (132, ⟨p_slices_Clone_byte_byte, r_slices_Clone_byte_byte, fun x => f x.1⟩)
noncomputable def F_slices_Clone_byte_byte : Fn := (D_slices_Clone_byte_byte P_slices_Clone_byte_byte).2
theorem E_slices_Clone_byte_byte : ∀ x, (mkFn cfg [] (lookN []) 8 [.tmp 2] (Try.f132.body.getD .skip) p_slices_Clone_byte_byte r_slices_Clone_byte_byte).fn x = B_slices_Clone_byte_byte x.1 := by intro x; kernel_rfl
theorem S_slices_Clone_byte_byte : Sound Try.prog 132 F_slices_Clone_byte_byte := sm MO cfg_ok tab_nil Try.func132 (by kernel_rfl) (by decide) (E_slices_Clone_byte_byte)
def A_i_byteReader_take : Nat → Option Jn := lookN [(3, ⟨[], lt 5 18 [], false⟩)]
abbrev p_i_byteReader_take : List PK := [.ptr kByteReader, .val false (.int .i64) false]
abbrev r_i_byteReader_take : List RK := [.val false (.sl 5 (.int .u8))]
noncomputable def D_i_byteReader_take (f : Y_i_byteReader_take) : Nat × Fn := (141, ⟨p_i_byteReader_take, r_i_byteReader_take, fun x => f x.1 x.2.1⟩)
noncomputable def F_i_byteReader_take : Fn := (D_i_byteReader_take P_i_byteReader_take).2
theorem E_i_byteReader_take (f_slices_Clone_byte_byte : Y_slices_Clone_byte_byte) : ∀ x, (mkFn cfg [D_slices_Clone_byte_byte f_slices_Clone_byte_byte] A_i_byteReader_take 50 [.tmp 4] (Try.f141.body.getD .skip) p_i_byteReader_take r_i_byteReader_take).fn x = B_i_byteReader_take f_slices_Clone_byte_byte x.1 x.2.1 := by intro x; kernel_rfl
theorem S_i_byteReader_take : Sound Try.prog 141 F_i_byteReader_take := sm MO cfg_ok (tc Try.call132 S_slices_Clone_byte_byte tab_nil) Try.func141 (by kernel_rfl) (by decide) (E_i_byteReader_take P_slices_Clone_byte_byte)
abbrev p_i_isEpoch : List PK := [.val false (.int .i64) false]
abbrev r_i_isEpoch : List RK := [.val false .bool]
noncomputable def D_i_isEpoch (f : Y_i_isEpoch) : Nat × Fn := (83, ⟨p_i_isEpoch, r_i_isEpoch, fun x => f x.1⟩)
noncomputable def F_i_isEpoch : Fn := (D_i_isEpoch P_i_isEpoch).2
theorem E_i_isEpoch (f_i_inRange : Y_i_inRange) : ∀ x, (mkFn cfg [D_i_inRange f_i_inRange] (lookN []) 5 [.tmp 2] (Try.f83.body.getD .skip) p_i_isEpoch r_i_isEpoch).fn x = B_i_isEpoch f_i_inRange x.1 := by intro x; kernel_rfl
theorem S_i_isEpoch : Sound Try.prog 83 F_i_isEpoch := sm MO cfg_ok (tc Try.call110 S_i_inRange tab_nil) Try.func83 (by kernel_rfl) (by decide) (E_i_isEpoch P_i_inRange)
def A_i_idOk : Nat → Option Jn := lookN [(3, ⟨[], lt 3 30 [], false⟩), (26, ⟨[.t 3 false [.int .i64]], lt 4 29 [], false⟩)]
abbrev p_i_idOk : List PK := [.val false .str false]
abbrev r_i_idOk : List RK := [.val false .bool]
noncomputable def D_i_idOk (f : Y_i_idOk) : Nat × Fn := (119, ⟨p_i_idOk, r_i_idOk, fun x => f x.1⟩)
noncomputable def F_i_idOk : Fn := (D_i_idOk P_i_idOk).2
theorem E_i_idOk (f_i_inRange : Y_i_inRange) : ∀ x, (mkFn cfg [D_i_inRange f_i_inRange] A_i_idOk 36 [.tmp 2] (Try.f119.body.getD .skip) p_i_idOk r_i_idOk).fn x = B_i_idOk f_i_inRange x.1 := by intro x; kernel_rfl
theorem S_i_idOk : Sound Try.prog 119 F_i_idOk := sm MO cfg_ok (tc Try.call110 S_i_inRange tab_nil) Try.func119 (by kernel_rfl) (by decide) (E_i_idOk P_i_inRange)
def A_i_RecOk : Nat → Option Jn := lookN [(3, ⟨[], lt 3 22 [], false⟩)]
abbrev p_i_RecOk : List PK := [.val true (.pair (.int .i64) (.pair (.int .i64) (.pair (.int .i64) (.pair .str (.pair (.int .i64) (.rs 5 (.int .u8))))))) false]
abbrev r_i_RecOk : List RK := [.val false .bool]
noncomputable def D_i_RecOk (f : Y_i_RecOk) : Nat × Fn := (142, ⟨p_i_RecOk, r_i_RecOk, fun x => f x.1⟩)
noncomputable def F_i_RecOk : Fn := (D_i_RecOk P_i_RecOk).2
theorem E_i_RecOk (f_i_isEpoch : Y_i_isEpoch) (f_i_inRange : Y_i_inRange) (f_i_idOk : Y_i_idOk) : ∀ x, (mkFn cfg [D_i_isEpoch f_i_isEpoch, D_i_inRange f_i_inRange, D_i_idOk f_i_idOk] A_i_RecOk 58 [.tmp 2] (Try.f142.body.getD .skip) p_i_RecOk r_i_RecOk).fn x = B_i_RecOk f_i_isEpoch f_i_inRange f_i_idOk x.1 := by intro x; kernel_rfl
theorem S_i_RecOk : Sound Try.prog 142 F_i_RecOk := sm MO cfg_ok (tc Try.call83 S_i_isEpoch (tc Try.call110 S_i_inRange (tc Try.call119 S_i_idOk tab_nil))) Try.func142 (by kernel_rfl) (by decide) (E_i_RecOk P_i_isEpoch P_i_inRange P_i_idOk)
def A_i_Crc : Nat → Option Jn := lookN [(7, ⟨[.t 3 false [.int .u32]], lt 5 24 [], true⟩), (58, ⟨[.t 3 false [.int .u32], .t 9 false [.int .i64]], lt 10 19 [.t 5, .t 6], false⟩), (29902, ⟨[.t 3 false [.int .u32], .t 17 false [.int .i64]], lt 18 10 [.t 6], false⟩)]
abbrev p_i_Crc : List PK := [.val false (.rs 5 (.int .u8)) false]
abbrev r_i_Crc : List RK := [.val false (.int .i64)]
noncomputable def D_i_Crc (f : Y_i_Crc) : Nat × Fn := (42, ⟨p_i_Crc, r_i_Crc, fun x => f x.1⟩)
noncomputable def F_i_Crc : Fn := (D_i_Crc P_i_Crc).2
theorem E_i_Crc : ∀ x, (mkFn cfg [] A_i_Crc 32 [.tmp 2] (Try.f42.body.getD .skip) p_i_Crc r_i_Crc).fn x = B_i_Crc x.1 := by intro x; kernel_rfl
theorem S_i_Crc : Sound Try.prog 42 F_i_Crc := sm MO cfg_ok tab_nil Try.func42 (by kernel_rfl) (by decide) (E_i_Crc)
def A_i_putBig : Nat → Option Jn := lookN [(58, ⟨[.t 0 false [.own 100000000], .t 7 false [.int .i64], .r 100000000 5 (.int .u8)], lt 12 13 [.r 23, .r 24, .r 1000], false⟩)]
abbrev p_i_putBig : List PK := [.val false (.sl 5 (.int .u8)) false, .val false (.int .i64) false, .val false (.int .i64) false]
abbrev r_i_putBig : List RK := [.val false (.sl 5 (.int .u8))]
noncomputable def D_i_putBig (f : Y_i_putBig) : Nat × Fn := (161, ⟨p_i_putBig, r_i_putBig, fun x => f x.1 x.2.1 x.2.2.1⟩)
noncomputable def F_i_putBig : Fn := (D_i_putBig P_i_putBig).2
theorem E_i_putBig : ∀ x, (mkFn cfg [] A_i_putBig 26 [.tmp 6] (Try.f161.body.getD .skip) p_i_putBig r_i_putBig).fn x = B_i_putBig x.1 x.2.1 x.2.2.1 := by intro x; kernel_rfl
theorem S_i_putBig : Sound Try.prog 161 F_i_putBig := sm MO cfg_ok tab_nil Try.func161 (by kernel_rfl) (by decide) (E_i_putBig)
abbrev p_i_PutRec : List PK := [.val true (.pair (.int .i64) (.pair (.int .i64) (.pair (.int .i64) (.pair .str (.pair (.int .i64) (.rs 5 (.int .u8))))))) false]
abbrev r_i_PutRec : List RK := [.val false .str]
noncomputable def D_i_PutRec (f : Y_i_PutRec) : Nat × Fn := (143, ⟨p_i_PutRec, r_i_PutRec, fun x => f x.1⟩)
noncomputable def F_i_PutRec : Fn := (D_i_PutRec P_i_PutRec).2
theorem E_i_PutRec (f_i_Crc : Y_i_Crc) (f_i_RecOk : Y_i_RecOk) (f_i_putBig : Y_i_putBig) : ∀ x, (mkFn cfg [D_i_Crc f_i_Crc, D_i_RecOk f_i_RecOk, D_i_putBig f_i_putBig] (lookN []) 45 [.tmp 2] (Try.f143.body.getD .skip) p_i_PutRec r_i_PutRec).fn x = B_i_PutRec f_i_Crc f_i_RecOk f_i_putBig x.1 := by intro x; kernel_rfl
theorem S_i_PutRec : Sound Try.prog 143 F_i_PutRec := sm MO cfg_ok (tc Try.call42 S_i_Crc (tc Try.call142 S_i_RecOk (tc Try.call161 S_i_putBig tab_nil))) Try.func143 (by kernel_rfl) (by decide) (E_i_PutRec P_i_Crc P_i_RecOk P_i_putBig)
abbrev p_i_GetRec : List PK := [.val false .str false]
abbrev r_i_GetRec : List RK := [.val true kRec, .val false .bool]
noncomputable def D_i_GetRec (f : Y_i_GetRec) : Nat × Fn := (103, ⟨p_i_GetRec, r_i_GetRec, fun x => f x.1⟩)
noncomputable def F_i_GetRec : Fn := (D_i_GetRec P_i_GetRec).2
theorem E_i_GetRec (f_i_byteReader_number : Y_i_byteReader_number) (f_i_byteReader_take : Y_i_byteReader_take) (f_i_RecOk : Y_i_RecOk) (f_i_PutRec : Y_i_PutRec) : ∀ x, (mkFn cfg [D_i_byteReader_number f_i_byteReader_number, D_i_byteReader_take f_i_byteReader_take, D_i_RecOk f_i_RecOk, D_i_PutRec f_i_PutRec] (lookN []) 42 [.cell 2 97, .tmp 3] (Try.f103.body.getD .skip) p_i_GetRec r_i_GetRec).fn x = B_i_GetRec f_i_byteReader_number f_i_byteReader_take f_i_RecOk f_i_PutRec x.1 := by intro x; kernel_rfl
theorem S_i_GetRec : Sound Try.prog 103 F_i_GetRec := sm MO cfg_ok (tc Try.call140 S_i_byteReader_number (tc Try.call141 S_i_byteReader_take (tc Try.call142 S_i_RecOk (tc Try.call143 S_i_PutRec tab_nil)))) Try.func103 (by kernel_rfl) (by decide) (E_i_GetRec P_i_byteReader_number P_i_byteReader_take P_i_RecOk P_i_PutRec)
def A_i_ScanRecs : Nat → Option Jn := lookN [(122, ⟨[.t 3 false [.own 100000000], .t 4 false [.int .i64], .t 12 false [.int .i64], .r 100000000 97 kRec], lt 13 30 (lt 5 4 [.b 7, .r 38, .r 39, .r 81925]), false⟩)]
abbrev p_i_ScanRecs : List PK := [.val true (.pair (.rs 9 .str) (.rs 9 .str)) false]
abbrev r_i_ScanRecs : List RK := [.val false (.sl 97 kRec)]
noncomputable def D_i_ScanRecs (f : Y_i_ScanRecs) : Nat × Fn := (37, ⟨p_i_ScanRecs, r_i_ScanRecs, fun x => f x.1⟩)
noncomputable def F_i_ScanRecs : Fn := (D_i_ScanRecs P_i_ScanRecs).2
theorem E_i_ScanRecs (f_i_GetRec : Y_i_GetRec) : ∀ x, (mkFn cfg [D_i_GetRec f_i_GetRec] A_i_ScanRecs 44 [.tmp 2] (Try.f37.body.getD .skip) p_i_ScanRecs r_i_ScanRecs).fn x = B_i_ScanRecs f_i_GetRec x.1 := by intro x; kernel_rfl
theorem S_i_ScanRecs : Sound Try.prog 37 F_i_ScanRecs := sm MO cfg_ok (tc Try.call103 S_i_GetRec tab_nil) Try.func37 (by kernel_rfl) (by decide) (E_i_ScanRecs P_i_GetRec)
def A_i_DiskOk : Nat → Option Jn := lookN [(3, ⟨[], lt 4 13 [], false⟩), (58, ⟨[.t 20 false [.int .i64]], lt 21 19 [.t 3], false⟩)]
abbrev p_i_DiskOk : List PK := [.val true (.pair (.rs 9 .str) (.rs 9 .str)) false]
abbrev r_i_DiskOk : List RK := [.val false .bool]
noncomputable def D_i_DiskOk (f : Y_i_DiskOk) : Nat × Fn := (84, ⟨p_i_DiskOk, r_i_DiskOk, fun x => f x.1⟩)
noncomputable def F_i_DiskOk : Fn := (D_i_DiskOk P_i_DiskOk).2
theorem E_i_DiskOk : ∀ x, (mkFn cfg [] A_i_DiskOk 40 [.tmp 2] (Try.f84.body.getD .skip) p_i_DiskOk r_i_DiskOk).fn x = B_i_DiskOk x.1 := by intro x; kernel_rfl
theorem S_i_DiskOk : Sound Try.prog 84 F_i_DiskOk := sm MO cfg_ok tab_nil Try.func84 (by kernel_rfl) (by decide) (E_i_DiskOk)
def A_i_upAt : Nat → Option Jn := lookN [(7, ⟨[.t 6 false [.int .i64]], lt 7 15 [], true⟩), (28, ⟨[.t 6 false [.int .i64]], lt 7 15 [], false⟩)]
abbrev p_i_upAt : List PK := [.val false (.rs 56 kUp) false, .val false .str false]
abbrev r_i_upAt : List RK := [.val false (.int .i64), .val false .bool]
noncomputable def D_i_upAt (f : Y_i_upAt) : Nat × Fn := (152, ⟨p_i_upAt, r_i_upAt, fun x => f x.1 x.2.1⟩)
noncomputable def F_i_upAt : Fn := (D_i_upAt P_i_upAt).2
theorem E_i_upAt : ∀ x, (mkFn cfg [] A_i_upAt 36 [.tmp 4, .tmp 5] (Try.f152.body.getD .skip) p_i_upAt r_i_upAt).fn x = B_i_upAt x.1 x.2.1 := by intro x; kernel_rfl
theorem S_i_upAt : Sound Try.prog 152 F_i_upAt := sm MO cfg_ok tab_nil Try.func152 (by kernel_rfl) (by decide) (E_i_upAt)
def A_i_fold : Nat → Option Jn := lookN [(58, ⟨[], lt 19 6 [], false⟩), (2026, ⟨[], lt 43 30 [], false⟩)]
abbrev p_i_fold : List PK := [.val false (.sl 56 kUp) false, .val true (.pair (.int .i64) (.pair (.int .i64) (.pair (.int .i64) (.pair .str (.pair (.int .i64) (.rs 5 (.int .u8))))))) false]
abbrev r_i_fold : List RK := [.val false (.sl 56 kUp), .val false .bool]
noncomputable def D_i_fold (f : Y_i_fold) : Nat × Fn := (133, ⟨p_i_fold, r_i_fold, fun x => f x.1 x.2.1⟩)
noncomputable def F_i_fold : Fn := (D_i_fold P_i_fold).2
theorem E_i_fold (f_i_upAt : Y_i_upAt) (f_slices_Insert_impl_Up_impl_Up : Y_slices_Insert_impl_Up_impl_Up) (f_slices_Delete_impl_Up_impl_Up : Y_slices_Delete_impl_Up_impl_Up) : ∀ x, (mkFn cfg [D_i_upAt f_i_upAt, D_slices_Insert_impl_Up_impl_Up f_slices_Insert_impl_Up_impl_Up, D_slices_Delete_impl_Up_impl_Up f_slices_Delete_impl_Up_impl_Up] A_i_fold 113 [.tmp 4, .tmp 5] (Try.f133.body.getD .skip) p_i_fold r_i_fold).fn x = B_i_fold f_i_upAt f_slices_Insert_impl_Up_impl_Up f_slices_Delete_impl_Up_impl_Up x.1 x.2.1 := by intro x; kernel_rfl
theorem S_i_fold : Sound Try.prog 133 F_i_fold := sm MO cfg_ok (tc Try.call152 S_i_upAt (tc Try.call153 S_slices_Insert_impl_Up_impl_Up (tc Try.call154 S_slices_Delete_impl_Up_impl_Up tab_nil))) Try.func133 (by kernel_rfl) (by decide) (E_i_fold P_i_upAt P_slices_Insert_impl_Up_impl_Up P_slices_Delete_impl_Up_impl_Up)
def A_i_FoldRecs : Nat → Option Jn := lookN [(7, ⟨[.t 4 false [.own 100000000], .r 100000000 56 kUp], lt 6 19 [.b 6, .r 77824], false⟩), (58, ⟨[.t 4 false [.own 100000000], .t 11 false [.int .i64], .r 100000000 56 kUp], lt 12 13 (lt 6 3 [.b 6, .r 77824]), false⟩)]
abbrev p_i_FoldRecs : List PK := [.val false (.rs 97 kRec) false]
abbrev r_i_FoldRecs : List RK := [.val false (.sl 56 kUp), .val false .bool]
noncomputable def D_i_FoldRecs (f : Y_i_FoldRecs) : Nat × Fn := (85, ⟨p_i_FoldRecs, r_i_FoldRecs, fun x => f x.1⟩)
noncomputable def F_i_FoldRecs : Fn := (D_i_FoldRecs P_i_FoldRecs).2
theorem E_i_FoldRecs (f_i_fold : Y_i_fold) : ∀ x, (mkFn cfg [D_i_fold f_i_fold] A_i_FoldRecs 26 [.tmp 2, .tmp 3] (Try.f85.body.getD .skip) p_i_FoldRecs r_i_FoldRecs).fn x = B_i_FoldRecs f_i_fold x.1 := by intro x; kernel_rfl
theorem S_i_FoldRecs : Sound Try.prog 85 F_i_FoldRecs := sm MO cfg_ok (tc Try.call133 S_i_fold tab_nil) Try.func85 (by kernel_rfl) (by decide) (E_i_FoldRecs P_i_fold)
def A_i_topFrom : Nat → Option Jn := lookN [(58, ⟨[.t 3 false [.int .i64], .t 10 false [.int .i64]], lt 11 14 (lt 5 3 [.b 6, .r 69637]), false⟩)]
abbrev p_i_topFrom : List PK := [.val false (.rs 9 .str) false]
abbrev r_i_topFrom : List RK := [.val false (.int .i64)]
noncomputable def D_i_topFrom (f : Y_i_topFrom) : Nat × Fn := (88, ⟨p_i_topFrom, r_i_topFrom, fun x => f x.1⟩)
noncomputable def F_i_topFrom : Fn := (D_i_topFrom P_i_topFrom).2
theorem E_i_topFrom (f_i_GetRec : Y_i_GetRec) : ∀ x, (mkFn cfg [D_i_GetRec f_i_GetRec] A_i_topFrom 26 [.tmp 2] (Try.f88.body.getD .skip) p_i_topFrom r_i_topFrom).fn x = B_i_topFrom f_i_GetRec x.1 := by intro x; kernel_rfl
theorem S_i_topFrom : Sound Try.prog 88 F_i_topFrom := sm MO cfg_ok (tc Try.call103 S_i_GetRec tab_nil) Try.func88 (by kernel_rfl) (by decide) (E_i_topFrom P_i_GetRec)
abbrev p_bytes_Equal : List PK := [.val false (.rs 5 (.int .u8)) false, .val false (.rs 5 (.int .u8)) false]
abbrev r_bytes_Equal : List RK := [.val false .bool]
noncomputable def D_bytes_Equal (f : Y_bytes_Equal) : Nat × Fn := (134, ⟨p_bytes_Equal, r_bytes_Equal, fun x => f x.1 x.2.1⟩)
noncomputable def F_bytes_Equal : Fn := (D_bytes_Equal P_bytes_Equal).2
theorem E_bytes_Equal : ∀ x, (mkFn cfg [] (lookN []) 10 [.tmp 4] (Try.f134.body.getD .skip) p_bytes_Equal r_bytes_Equal).fn x = B_bytes_Equal x.1 x.2.1 := by intro x; kernel_rfl
theorem S_bytes_Equal : Sound Try.prog 134 F_bytes_Equal := sm MO cfg_ok tab_nil Try.func134 (by kernel_rfl) (by decide) (E_bytes_Equal)
abbrev p_i_sameUp : List PK := [.val true (.pair .str (.pair (.int .i64) (.pair (.rs 5 (.int .u8)) .bool))) false, .val true (.pair .str (.pair (.int .i64) (.pair (.rs 5 (.int .u8)) .bool))) false]
abbrev r_i_sameUp : List RK := [.val false .bool]
noncomputable def D_i_sameUp (f : Y_i_sameUp) : Nat × Fn := (87, ⟨p_i_sameUp, r_i_sameUp, fun x => f x.1 x.2.1⟩)
noncomputable def F_i_sameUp : Fn := (D_i_sameUp P_i_sameUp).2
theorem E_i_sameUp (f_bytes_Equal : Y_bytes_Equal) : ∀ x, (mkFn cfg [D_bytes_Equal f_bytes_Equal] (lookN []) 31 [.tmp 4] (Try.f87.body.getD .skip) p_i_sameUp r_i_sameUp).fn x = B_i_sameUp f_bytes_Equal x.1 x.2.1 := by intro x; kernel_rfl
theorem S_i_sameUp : Sound Try.prog 87 F_i_sameUp := sm MO cfg_ok (tc Try.call134 S_bytes_Equal tab_nil) Try.func87 (by kernel_rfl) (by decide) (E_i_sameUp P_bytes_Equal)
def A_slices_EqualFunc_impl_Up_impl_Up_impl_Up_impl_Up_r1002_87 : Nat → Option Jn := lookN [(58, ⟨[.t 17 false [.int .i64]], lt 18 14 (lt 7 3 [.b 8, .b 9]), false⟩)]
abbrev p_slices_EqualFunc_impl_Up_impl_Up_impl_Up_impl_Up_r1002_87 : List PK := [.val false (.rs 56 kUp) false, .val false (.rs 56 kUp) false, .val false (.fnc 87) false]
abbrev r_slices_EqualFunc_impl_Up_impl_Up_impl_Up_impl_Up_r1002_87 : List RK := [.val false .bool]
noncomputable def D_slices_EqualFunc_impl_Up_impl_Up_impl_Up_impl_Up_r1002_87 (f : Y_slices_EqualFunc_impl_Up_impl_Up_impl_Up_impl_Up_r1002_87) : Nat × Fn := (86, ⟨p_slices_EqualFunc_impl_Up_impl_Up_impl_Up_impl_Up_r1002_87, r_slices_EqualFunc_impl_Up_impl_Up_impl_Up_impl_Up_r1002_87, fun x => f x.1 x.2.1 x.2.2.1⟩)
noncomputable def F_slices_EqualFunc_impl_Up_impl_Up_impl_Up_impl_Up_r1002_87 : Fn := (D_slices_EqualFunc_impl_Up_impl_Up_impl_Up_impl_Up_r1002_87 P_slices_EqualFunc_impl_Up_impl_Up_impl_Up_impl_Up_r1002_87).2
theorem E_slices_EqualFunc_impl_Up_impl_Up_impl_Up_impl_Up_r1002_87 (f_i_sameUp : Y_i_sameUp) : ∀ x, (mkFn cfg [D_i_sameUp f_i_sameUp] A_slices_EqualFunc_impl_Up_impl_Up_impl_Up_impl_Up_r1002_87 32 [.tmp 6] (Try.f86.body.getD .skip) p_slices_EqualFunc_impl_Up_impl_Up_impl_Up_impl_Up_r1002_87 r_slices_EqualFunc_impl_Up_impl_Up_impl_Up_impl_Up_r1002_87).fn x = B_slices_EqualFunc_impl_Up_impl_Up_impl_Up_impl_Up_r1002_87 f_i_sameUp x.1 x.2.1 x.2.2.1 := by intro x; kernel_rfl
theorem S_slices_EqualFunc_impl_Up_impl_Up_impl_Up_impl_Up_r1002_87 : Sound Try.prog 86 F_slices_EqualFunc_impl_Up_impl_Up_impl_Up_impl_Up_r1002_87 := sm MO cfg_ok (tc Try.call87 S_i_sameUp tab_nil) Try.func86 (by kernel_rfl) (by decide) (E_slices_EqualFunc_impl_Up_impl_Up_impl_Up_impl_Up_r1002_87 P_i_sameUp)
def A_i_StoreOk : Nat → Option Jn := lookN [(3, ⟨[], lt 6 10 [], false⟩), (31, ⟨[], lt 24 16 [], false⟩), (63, ⟨[], lt 40 15 [.x 50], false⟩)]
abbrev p_i_StoreOk : List PK := [.val true (.pair (.pair (.rs 9 .str) (.rs 9 .str)) (.pair (.int .i64) (.pair (.int .i64) (.rs 56 kUp)))) false]
abbrev r_i_StoreOk : List RK := [.val false .bool]
noncomputable def D_i_StoreOk (f : Y_i_StoreOk) : Nat × Fn := (28, ⟨p_i_StoreOk, r_i_StoreOk, fun x => f x.1⟩)
noncomputable def F_i_StoreOk : Fn := (D_i_StoreOk P_i_StoreOk).2
theorem E_i_StoreOk (f_i_ScanRecs : Y_i_ScanRecs) (f_i_isEpoch : Y_i_isEpoch) (f_i_DiskOk : Y_i_DiskOk) (f_i_FoldRecs : Y_i_FoldRecs) (f_slices_EqualFunc_impl_Up_impl_Up_impl_Up_impl_Up_r1002_87 : Y_slices_EqualFunc_impl_Up_impl_Up_impl_Up_impl_Up_r1002_87) (f_i_topFrom : Y_i_topFrom) : ∀ x, (mkFn cfg [D_i_ScanRecs f_i_ScanRecs, D_i_isEpoch f_i_isEpoch, D_i_DiskOk f_i_DiskOk, D_i_FoldRecs f_i_FoldRecs, D_slices_EqualFunc_impl_Up_impl_Up_impl_Up_impl_Up_r1002_87 f_slices_EqualFunc_impl_Up_impl_Up_impl_Up_impl_Up_r1002_87, D_i_topFrom f_i_topFrom] A_i_StoreOk 65 [.tmp 2] (Try.f28.body.getD .skip) p_i_StoreOk r_i_StoreOk).fn x = B_i_StoreOk f_i_ScanRecs f_i_isEpoch f_i_DiskOk f_i_FoldRecs f_slices_EqualFunc_impl_Up_impl_Up_impl_Up_impl_Up_r1002_87 f_i_topFrom x.1 := by intro x; kernel_rfl
theorem S_i_StoreOk : Sound Try.prog 28 F_i_StoreOk := sm MO cfg_ok (tc Try.call37 S_i_ScanRecs (tc Try.call83 S_i_isEpoch (tc Try.call84 S_i_DiskOk (tc Try.call85 S_i_FoldRecs (tc Try.call86 S_slices_EqualFunc_impl_Up_impl_Up_impl_Up_impl_Up_r1002_87 (tc Try.call88 S_i_topFrom tab_nil)))))) Try.func28 (by kernel_rfl) (by decide) (E_i_StoreOk P_i_ScanRecs P_i_isEpoch P_i_DiskOk P_i_FoldRecs P_slices_EqualFunc_impl_Up_impl_Up_impl_Up_impl_Up_r1002_87 P_i_topFrom)
abbrev p_i_copyUp : List PK := [.val true (.pair .str (.pair (.int .i64) (.pair (.rs 5 (.int .u8)) .bool))) false]
abbrev r_i_copyUp : List RK := [.val true kUp]
noncomputable def D_i_copyUp (f : Y_i_copyUp) : Nat × Fn := (81, ⟨p_i_copyUp, r_i_copyUp, fun x => f x.1⟩)
noncomputable def F_i_copyUp : Fn := (D_i_copyUp P_i_copyUp).2
theorem E_i_copyUp (f_slices_Clone_byte_byte : Y_slices_Clone_byte_byte) : ∀ x, (mkFn cfg [D_slices_Clone_byte_byte f_slices_Clone_byte_byte] (lookN []) 8 [.cell 2 56] (Try.f81.body.getD .skip) p_i_copyUp r_i_copyUp).fn x = B_i_copyUp f_slices_Clone_byte_byte x.1 := by intro x; kernel_rfl
theorem S_i_copyUp : Sound Try.prog 81 F_i_copyUp := sm MO cfg_ok (tc Try.call132 S_slices_Clone_byte_byte tab_nil) Try.func81 (by kernel_rfl) (by decide) (E_i_copyUp P_slices_Clone_byte_byte)
abbrev p_slices_Clone_string_string : List PK := [.val false (.rs 9 .str) false]
abbrev r_slices_Clone_string_string : List RK := [.val false (.sl 9 .str)]
noncomputable def D_slices_Clone_string_string (f : Y_slices_Clone_string_string) : Nat × Fn := (139, ⟨p_slices_Clone_string_string, r_slices_Clone_string_string, fun x => f x.1⟩)
noncomputable def F_slices_Clone_string_string : Fn := (D_slices_Clone_string_string P_slices_Clone_string_string).2
theorem E_slices_Clone_string_string : ∀ x, (mkFn cfg [] (lookN []) 8 [.tmp 2] (Try.f139.body.getD .skip) p_slices_Clone_string_string r_slices_Clone_string_string).fn x = B_slices_Clone_string_string x.1 := by intro x; kernel_rfl
theorem S_slices_Clone_string_string : Sound Try.prog 139 F_slices_Clone_string_string := sm MO cfg_ok tab_nil Try.func139 (by kernel_rfl) (by decide) (E_slices_Clone_string_string)
abbrev p_i_copyDisk : List PK := [.val true (.pair (.rs 9 .str) (.rs 9 .str)) false]
abbrev r_i_copyDisk : List RK := [.val true kDisk]
noncomputable def D_i_copyDisk (f : Y_i_copyDisk) : Nat × Fn := (96, ⟨p_i_copyDisk, r_i_copyDisk, fun x => f x.1⟩)
noncomputable def F_i_copyDisk : Fn := (D_i_copyDisk P_i_copyDisk).2
theorem E_i_copyDisk (f_slices_Clone_string_string : Y_slices_Clone_string_string) : ∀ x, (mkFn cfg [D_slices_Clone_string_string f_slices_Clone_string_string] (lookN []) 10 [.cell 2 33] (Try.f96.body.getD .skip) p_i_copyDisk r_i_copyDisk).fn x = B_i_copyDisk f_slices_Clone_string_string x.1 := by intro x; kernel_rfl
theorem S_i_copyDisk : Sound Try.prog 96 F_i_copyDisk := sm MO cfg_ok (tc Try.call139 S_slices_Clone_string_string tab_nil) Try.func96 (by kernel_rfl) (by decide) (E_i_copyDisk P_slices_Clone_string_string)
def A_i_copyStore : Nat → Option Jn := lookN [(58, ⟨[.t 17 false [.int .i64], .b 3 [.own 36864, .own 36865, .int .i64, .int .i64, .own 100000000], .r 36864 9 .str, .r 36865 9 .str, .r 100000000 56 kUp], lt 18 11 [.b 5, .r 25, .r 26, .r 102402, .t 5], false⟩)]
abbrev p_i_copyStore : List PK := [.val true (.pair (.pair (.rs 9 .str) (.rs 9 .str)) (.pair (.int .i64) (.pair (.int .i64) (.rs 56 kUp)))) false]
abbrev r_i_copyStore : List RK := [.val true kStore]
noncomputable def D_i_copyStore (f : Y_i_copyStore) : Nat × Fn := (64, ⟨p_i_copyStore, r_i_copyStore, fun x => f x.1⟩)
noncomputable def F_i_copyStore : Fn := (D_i_copyStore P_i_copyStore).2
theorem E_i_copyStore (f_i_copyUp : Y_i_copyUp) (f_i_copyDisk : Y_i_copyDisk) : ∀ x, (mkFn cfg [D_i_copyUp f_i_copyUp, D_i_copyDisk f_i_copyDisk] A_i_copyStore 30 [.cell 2 36] (Try.f64.body.getD .skip) p_i_copyStore r_i_copyStore).fn x = B_i_copyStore f_i_copyUp f_i_copyDisk x.1 := by intro x; kernel_rfl
theorem S_i_copyStore : Sound Try.prog 64 F_i_copyStore := sm MO cfg_ok (tc Try.call81 S_i_copyUp (tc Try.call96 S_i_copyDisk tab_nil)) Try.func64 (by kernel_rfl) (by decide) (E_i_copyStore P_i_copyUp P_i_copyDisk)
abbrev p_i_Store_left : List PK := [.ptr kStore]
abbrev r_i_Store_left : List RK := [.val false (.int .i64)]
noncomputable def D_i_Store_left (f : Y_i_Store_left) : Nat × Fn := (121, ⟨p_i_Store_left, r_i_Store_left, fun x => f x.1⟩)
noncomputable def F_i_Store_left : Fn := (D_i_Store_left P_i_Store_left).2
theorem E_i_Store_left : ∀ x, (mkFn cfg [] (lookN []) 14 [.tmp 2] (Try.f121.body.getD .skip) p_i_Store_left r_i_Store_left).fn x = B_i_Store_left x.1 := by intro x; kernel_rfl
theorem S_i_Store_left : Sound Try.prog 121 F_i_Store_left := sm MO cfg_ok tab_nil Try.func121 (by kernel_rfl) (by decide) (E_i_Store_left)
abbrev p_i_Store_write_r97_0 : List PK := [.ptr kStore, .val false (.int .i64) false, .val false .str false, .val false (.int .i64) false, .val false (.rs 5 (.int .u8)) false]
abbrev r_i_Store_write_r97_0 : List RK := []
noncomputable def D_i_Store_write_r97_0 (f : Y_i_Store_write_r97_0) : Nat × Fn := (122, ⟨p_i_Store_write_r97_0, r_i_Store_write_r97_0, fun x => f x.1 x.2.1 x.2.2.1 x.2.2.2.1 x.2.2.2.2.1⟩)
noncomputable def F_i_Store_write_r97_0 : Fn := (D_i_Store_write_r97_0 P_i_Store_write_r97_0).2
theorem E_i_Store_write_r97_0 (f_i_fold : Y_i_fold) (f_i_PutRec : Y_i_PutRec) : ∀ x, (mkFn cfg [D_i_fold f_i_fold, D_i_PutRec f_i_PutRec] (lookN []) 59 [] (Try.f122.body.getD .skip) p_i_Store_write_r97_0 r_i_Store_write_r97_0).fn x = B_i_Store_write_r97_0 f_i_fold f_i_PutRec x.1 x.2.1 x.2.2.1 x.2.2.2.1 x.2.2.2.2.1 := by intro x; kernel_rfl
theorem S_i_Store_write_r97_0 : Sound Try.prog 122 F_i_Store_write_r97_0 := sm MO cfg_ok (tc Try.call133 S_i_fold (tc Try.call143 S_i_PutRec tab_nil)) Try.func122 (by kernel_rfl) (by decide) (E_i_Store_write_r97_0 P_i_fold P_i_PutRec)
end Go.Proofs.Ytehbegmomfcmhaa.Ev
