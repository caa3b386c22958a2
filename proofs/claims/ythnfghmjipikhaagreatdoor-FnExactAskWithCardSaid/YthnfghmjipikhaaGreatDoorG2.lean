/- Each function of the program does what its plain function says. -/
import Derived.Test.YthnfghmjipikhaaGreatDoorG1
set_option linter.unusedVariables false
set_option maxRecDepth 100000
namespace Go.Proofs.YthnfghmjipikhaaGreatDoor.Ev
def A_i_Table_put : Nat → Option Jn := lookN [(7, ⟨[], lt 21 5 [], false⟩), (63, ⟨[.t 1 false [.own 100001000], .r 100001000 5 (.int .u8)], lt 39 6 [.r 159744, .r 184320], true⟩)]
abbrev p_i_Table_put : List PK := [.ptr kTable, .val false (.sl 5 (.int .u8)) false, .val true kField false, .val false (.int .i64) false]
abbrev r_i_Table_put : List RK := [.val false (.sl 5 (.int .u8))]
noncomputable def D_i_Table_put (f : Y_i_Table_put) : Nat × Fn := (140, ⟨p_i_Table_put, r_i_Table_put, fun x => f x.1 x.2.1 x.2.2.1 x.2.2.2.1⟩)
noncomputable def F_i_Table_put : Fn := (D_i_Table_put P_i_Table_put).2
theorem E_i_Table_put (f_i_Table_add : Y_i_Table_add) (f_i_FindField : Y_i_FindField) (f_i_putPrefix : Y_i_putPrefix) (f_i_formOf : Y_i_formOf) (f_i_putString : Y_i_putString) : ∀ x, (mkFn cfg [D_i_Table_add f_i_Table_add, D_i_FindField_r98_0_r99_0 f_i_FindField, D_i_putPrefix f_i_putPrefix, D_i_formOf f_i_formOf, D_i_putString f_i_putString] A_i_Table_put 55 [.tmp 8] (Tryz.f140.body.getD .skip) p_i_Table_put r_i_Table_put).fn x = B_i_Table_put f_i_Table_add f_i_FindField f_i_putPrefix f_i_formOf f_i_putString x.1 x.2.1 x.2.2.1 x.2.2.2.1 := by intro x; kernel_rfl
theorem S_i_Table_put : Sound Tryz.prog 140 F_i_Table_put := sm MO cfg_ok (tc Tryz.call161 S_i_Table_add (tc Tryz.call180 S_i_FindField_r98_0_r99_0 (tc Tryz.call181 S_i_putPrefix (tc Tryz.call182 S_i_formOf (tc Tryz.call183 S_i_putString tab_nil))))) Tryz.func140 (by kernel_rfl) (by decide) (E_i_Table_put P_i_Table_add P_i_FindField P_i_putPrefix P_i_formOf P_i_putString)
def A_i_PutFields : Nat → Option Jn := lookN [(31, ⟨[.t 7 false [.own 100000001], .b 6 [.int .i64, .own 100000000], .r 100000000 150 kField, .r 100000001 5 (.int .u8)], lt 17 14 [.b 9, .r 53249, .r 122880, .r 124929, .t 9, .t 10], true⟩), (250, ⟨[.t 7 false [.own 100000001], .t 19 false [.int .i64], .b 6 [.int .i64, .own 100000000], .r 100000000 150 kField, .r 100000001 5 (.int .u8)], lt 20 11 [.b 9, .r 53249, .r 122880, .r 124929, .t 9, .t 10], false⟩)]
abbrev p_i_PutFields : List PK := [.val true (.pair (.int .i64) (.rs 150 kField)) false, .val false (.rs 150 kField) false]
abbrev r_i_PutFields : List RK := [.val false (.sl 5 (.int .u8)), .val true kTable]
noncomputable def D_i_PutFields (f : Y_i_PutFields) : Nat × Fn := (65, ⟨p_i_PutFields, r_i_PutFields, fun x => f x.1 x.2.1⟩)
noncomputable def F_i_PutFields : Fn := (D_i_PutFields P_i_PutFields).2
theorem E_i_PutFields (f_i_TableOk : Y_i_TableOk) (f_i_copyTable : Y_i_copyTable) (f_i_Table_put : Y_i_Table_put) : ∀ x, (mkFn cfg [D_i_TableOk f_i_TableOk, D_i_copyTable f_i_copyTable, D_i_Table_put f_i_Table_put] A_i_PutFields 33 [.tmp 4, .cell 5 32] (Tryz.f65.body.getD .skip) p_i_PutFields r_i_PutFields).fn x = B_i_PutFields f_i_TableOk f_i_copyTable f_i_Table_put x.1 x.2.1 := by intro x; kernel_rfl
theorem S_i_PutFields : Sound Tryz.prog 65 F_i_PutFields := sm MO cfg_ok (tc Tryz.call63 S_i_TableOk (tc Tryz.call64 S_i_copyTable (tc Tryz.call140 S_i_Table_put tab_nil))) Tryz.func65 (by kernel_rfl) (by decide) (E_i_PutFields P_i_TableOk P_i_copyTable P_i_Table_put)
abbrev p_i_methodOf : List PK := [.val false (.int .i64) false]
abbrev r_i_methodOf : List RK := [.val false .str]
noncomputable def D_i_methodOf (f : Y_i_methodOf) : Nat × Fn := (141, ⟨p_i_methodOf, r_i_methodOf, fun x => f x.1⟩)
noncomputable def F_i_methodOf : Fn := (D_i_methodOf P_i_methodOf).2
theorem E_i_methodOf : ∀ x, (mkFn (cfg.withAr [(211, 6, 9)]) [] (lookN []) 7 [.tmp 2] (Tryz.f141.body.getD .skip) p_i_methodOf r_i_methodOf).fn x = B_i_methodOf x.1 := by intro x; kernel_rfl
theorem S_i_methodOf : Sound Tryz.prog 141 F_i_methodOf := sm MO (withAr_ok (l := [(211, 6, 9)]) cfg_ok ⟨arOk_mk (f := Tryz.t211) (ti := ⟨false, .str, 16, []⟩) Tryz.underlying211 (by kernel_rfl) (by kernel_rfl) (by kernel_rfl), trivial⟩) tab_nil Tryz.func141 (by kernel_rfl) (by decide) (E_i_methodOf)
abbrev p_i_FieldsOf : List PK := [.val true kReq false]
abbrev r_i_FieldsOf : List RK := [.val false (.sl 150 kField)]
noncomputable def D_i_FieldsOf (f : Y_i_FieldsOf) : Nat × Fn := (66, ⟨p_i_FieldsOf, r_i_FieldsOf, fun x => f x.1⟩)
noncomputable def F_i_FieldsOf : Fn := (D_i_FieldsOf P_i_FieldsOf).2
theorem E_i_FieldsOf (f_i_ReqOk : Y_i_ReqOk) (f_i_numberField : Y_i_numberField) (f_i_methodOf : Y_i_methodOf) (f_strconv_Itoa : Y_strconv_Itoa) : ∀ x, (mkFn cfg [D_i_ReqOk f_i_ReqOk, D_i_numberField f_i_numberField, D_i_methodOf f_i_methodOf, D_strconv_Itoa f_strconv_Itoa] (lookN []) 36 [.tmp 2] (Tryz.f66.body.getD .skip) p_i_FieldsOf r_i_FieldsOf).fn x = B_i_FieldsOf f_i_ReqOk f_i_numberField f_i_methodOf f_strconv_Itoa x.1 := by intro x; kernel_rfl
theorem S_i_FieldsOf : Sound Tryz.prog 66 F_i_FieldsOf := sm MO cfg_ok (tc Tryz.call62 S_i_ReqOk (tc Tryz.call136 S_i_numberField (tc Tryz.call141 S_i_methodOf (tc Tryz.call142 S_strconv_Itoa tab_nil)))) Tryz.func66 (by kernel_rfl) (by decide) (E_i_FieldsOf P_i_ReqOk P_i_numberField P_i_methodOf P_strconv_Itoa)
def A_i_putBig : Nat → Option Jn := lookN [(58, ⟨[.t 0 false [.own 100000000], .t 7 false [.int .i64], .r 100000000 5 (.int .u8)], lt 12 13 [.r 23, .r 24, .r 1000], false⟩)]
abbrev p_i_putBig : List PK := [.val false (.sl 5 (.int .u8)) false, .val false (.int .i64) false, .val false (.int .i64) false]
abbrev r_i_putBig : List RK := [.val false (.sl 5 (.int .u8))]
noncomputable def D_i_putBig (f : Y_i_putBig) : Nat × Fn := (145, ⟨p_i_putBig, r_i_putBig, fun x => f x.1 x.2.1 x.2.2.1⟩)
noncomputable def F_i_putBig : Fn := (D_i_putBig P_i_putBig).2
theorem E_i_putBig : ∀ x, (mkFn cfg [] A_i_putBig 26 [.tmp 6] (Tryz.f145.body.getD .skip) p_i_putBig r_i_putBig).fn x = B_i_putBig x.1 x.2.1 x.2.2.1 := by intro x; kernel_rfl
theorem S_i_putBig : Sound Tryz.prog 145 F_i_putBig := sm MO cfg_ok tab_nil Tryz.func145 (by kernel_rfl) (by decide) (E_i_putBig)
abbrev p_i_putFrame : List PK := [.val false (.sl 5 (.int .u8)) false, .val true (.pair (.int .i64) (.pair (.int .i64) (.pair (.int .i64) (.rs 5 (.int .u8))))) false]
abbrev r_i_putFrame : List RK := [.val false (.sl 5 (.int .u8))]
noncomputable def D_i_putFrame (f : Y_i_putFrame) : Nat × Fn := (69, ⟨p_i_putFrame, r_i_putFrame, fun x => f x.1 x.2.1⟩)
noncomputable def F_i_putFrame : Fn := (D_i_putFrame P_i_putFrame).2
theorem E_i_putFrame (f_i_putBig : Y_i_putBig) : ∀ x, (mkFn cfg [D_i_putBig f_i_putBig] (lookN []) 26 [.tmp 4] (Tryz.f69.body.getD .skip) p_i_putFrame r_i_putFrame).fn x = B_i_putFrame f_i_putBig x.1 x.2.1 := by intro x; kernel_rfl
theorem S_i_putFrame : Sound Tryz.prog 69 F_i_putFrame := sm MO cfg_ok (tc Tryz.call145 S_i_putBig tab_nil) Tryz.func69 (by kernel_rfl) (by decide) (E_i_putFrame P_i_putBig)
def A_i_putFrames : Nat → Option Jn := lookN [(26, ⟨[.t 0 false [.own 100000000], .t 9 false [.int .i64], .r 100000000 5 (.int .u8)], lt 10 7 [.b 6, .r 1000, .r 65536, .t 6], false⟩)]
abbrev p_i_putFrames : List PK := [.val false (.sl 5 (.int .u8)) false, .val false (.rs 82 kFrame) false]
abbrev r_i_putFrames : List RK := [.val false (.sl 5 (.int .u8))]
noncomputable def D_i_putFrames (f : Y_i_putFrames) : Nat × Fn := (67, ⟨p_i_putFrames, r_i_putFrames, fun x => f x.1 x.2.1⟩)
noncomputable def F_i_putFrames : Fn := (D_i_putFrames P_i_putFrames).2
theorem E_i_putFrames (f_i_putFrame : Y_i_putFrame) : ∀ x, (mkFn cfg [D_i_putFrame f_i_putFrame] A_i_putFrames 18 [.tmp 4] (Tryz.f67.body.getD .skip) p_i_putFrames r_i_putFrames).fn x = B_i_putFrames f_i_putFrame x.1 x.2.1 := by intro x; kernel_rfl
theorem S_i_putFrames : Sound Tryz.prog 67 F_i_putFrames := sm MO cfg_ok (tc Tryz.call69 S_i_putFrame tab_nil) Tryz.func67 (by kernel_rfl) (by decide) (E_i_putFrames P_i_putFrame)
abbrev p_slices_Clone_byte_byte : List PK := [.val false (.rs 5 (.int .u8)) false]
abbrev r_slices_Clone_byte_byte : List RK := [.val false (.sl 5 (.int .u8))]
noncomputable def D_slices_Clone_byte_byte (f : Y_slices_Clone_byte_byte) : Nat × Fn := (144, ⟨p_slices_Clone_byte_byte, r_slices_Clone_byte_byte, fun x => f x.1⟩)
noncomputable def F_slices_Clone_byte_byte : Fn := (D_slices_Clone_byte_byte P_slices_Clone_byte_byte).2
theorem E_slices_Clone_byte_byte : ∀ x, (mkFn cfg [] (lookN []) 8 [.tmp 2] (Tryz.f144.body.getD .skip) p_slices_Clone_byte_byte r_slices_Clone_byte_byte).fn x = B_slices_Clone_byte_byte x.1 := by intro x; kernel_rfl
theorem S_slices_Clone_byte_byte : Sound Tryz.prog 144 F_slices_Clone_byte_byte := sm MO cfg_ok tab_nil Tryz.func144 (by kernel_rfl) (by decide) (E_slices_Clone_byte_byte)
def A_i_Part : Nat → Option Jn := lookN [(31, ⟨[.b 9 [.own 20], .r 20 82 kFrame], lt 21 4 [.x 23], true⟩), (63, ⟨[.b 9 [.own 100001000], .r 100001000 82 kFrame], lt 25 30 [.r 20, .r 43, .r 44, .r 217088, .t 10, .t 11, .x 33, .x 49], true⟩), (506, ⟨[.b 9 [.own 100001000], .r 100001000 82 kFrame], lt 28 27 [.r 20, .r 43, .r 44, .r 217088, .t 10, .t 11, .x 33, .x 49], false⟩)]
abbrev p_i_Part : List PK := [.val false (.int .i64) false, .val false .bool false, .val false (.rs 5 (.int .u8)) false, .val false (.int .i64) false]
abbrev r_i_Part : List RK := [.val false (.sl 82 kFrame)]
noncomputable def D_i_Part (f : Y_i_Part) : Nat × Fn := (68, ⟨p_i_Part, r_i_Part, fun x => f x.1 x.2.1 x.2.2.1 x.2.2.2.1⟩)
noncomputable def F_i_Part : Fn := (D_i_Part P_i_Part).2
theorem E_i_Part (f_i_inRange : Y_i_inRange) (f_slices_Clone_byte_byte : Y_slices_Clone_byte_byte) : ∀ x, (mkFn (cfg.withCk 143 185) [D_i_inRange f_i_inRange, D_slices_Clone_byte_byte f_slices_Clone_byte_byte] A_i_Part 66 [.tmp 8] (Tryz.f68.body.getD .skip) p_i_Part r_i_Part).fn x = B_i_Part f_i_inRange f_slices_Clone_byte_byte x.1 x.2.1 x.2.2.1 x.2.2.2.1 := by intro x; kernel_rfl
theorem S_i_Part : Sound Tryz.prog 68 F_i_Part := sm MO (withCk_ok cfg_ok (fun args w => Tryz.call143 args w) S_Chunk) (tc Tryz.call61 S_i_inRange (tc Tryz.call144 S_slices_Clone_byte_byte tab_nil)) Tryz.func68 (by kernel_rfl) (by decide) (E_i_Part P_i_inRange P_slices_Clone_byte_byte)
def A_i_AskWith : Nat → Option Jn := lookN [(3, ⟨[], lt 17 13 [], false⟩), (63, ⟨[.t 14 false [.own 100001000], .r 100001000 5 (.int .u8)], lt 50 22 [.b 16, .r 204800, .r 294912, .t 3, .t 15, .t 16], true⟩), (252, ⟨[.t 3 false [.ro 5 (.int .u8)], .t 14 false [.own 100001000], .r 100001000 5 (.int .u8)], lt 50 22 [.b 16, .r 204800, .r 294912, .t 15, .t 16], false⟩)]
abbrev p_i_AskWith : List PK := [.val true (.pair (.int .i64) (.rs 150 kField)) false, .val false (.int .i64) false, .val true kReq false, .val false (.rs 5 (.int .u8)) false, .val false (.int .i64) false]
abbrev r_i_AskWith : List RK := [.val false (.sl 5 (.int .u8)), .val true kTable]
noncomputable def D_i_AskWith (f : Y_i_AskWith) : Nat × Fn := (15, ⟨p_i_AskWith, r_i_AskWith, fun x => f x.1 x.2.1 x.2.2.1 x.2.2.2.1 x.2.2.2.2.1⟩)
noncomputable def F_i_AskWith : Fn := (D_i_AskWith P_i_AskWith).2
theorem E_i_AskWith (f_i_inRange : Y_i_inRange) (f_i_ReqOk : Y_i_ReqOk) (f_i_TableOk : Y_i_TableOk) (f_i_copyTable : Y_i_copyTable) (f_i_PutFields : Y_i_PutFields) (f_i_FieldsOf : Y_i_FieldsOf) (f_i_putFrames : Y_i_putFrames) (f_i_Part : Y_i_Part) (f_i_putFrame : Y_i_putFrame) : ∀ x, (mkFn cfg [D_i_inRange f_i_inRange, D_i_ReqOk f_i_ReqOk, D_i_TableOk f_i_TableOk, D_i_copyTable f_i_copyTable, D_i_PutFields f_i_PutFields, D_i_FieldsOf f_i_FieldsOf, D_i_putFrames f_i_putFrames, D_i_Part f_i_Part, D_i_putFrame f_i_putFrame] A_i_AskWith 74 [.tmp 10, .cell 11 32] (Tryz.f15.body.getD .skip) p_i_AskWith r_i_AskWith).fn x = B_i_AskWith f_i_inRange f_i_ReqOk f_i_TableOk f_i_copyTable f_i_PutFields f_i_FieldsOf f_i_putFrames f_i_Part f_i_putFrame x.1 x.2.1 x.2.2.1 x.2.2.2.1 x.2.2.2.2.1 := by intro x; kernel_rfl
theorem S_i_AskWith : Sound Tryz.prog 15 F_i_AskWith := sm MO cfg_ok (tc Tryz.call61 S_i_inRange (tc Tryz.call62 S_i_ReqOk (tc Tryz.call63 S_i_TableOk (tc Tryz.call64 S_i_copyTable (tc Tryz.call65 S_i_PutFields (tc Tryz.call66 S_i_FieldsOf (tc Tryz.call67 S_i_putFrames (tc Tryz.call68 S_i_Part (tc Tryz.call69 S_i_putFrame tab_nil))))))))) Tryz.func15 (by kernel_rfl) (by decide) (E_i_AskWith P_i_inRange P_i_ReqOk P_i_TableOk P_i_copyTable P_i_PutFields P_i_FieldsOf P_i_putFrames P_i_Part P_i_putFrame)
def A_w_eqByteS : Nat → Option Jn := lookN [(58, ⟨[.t 5 false [.int .i64]], lt 11 15 [], false⟩)]
abbrev p_w_eqByteS : List PK := [.val false (.rs 5 (.int .u8)) false, .val false (.rs 5 (.int .u8)) false]
abbrev r_w_eqByteS : List RK := [.val false .bool]
noncomputable def D_w_eqByteS (f : Y_w_eqByteS) : Nat × Fn := (16, ⟨p_w_eqByteS, r_w_eqByteS, fun x => f x.1 x.2.1⟩)
noncomputable def F_w_eqByteS : Fn := (D_w_eqByteS P_w_eqByteS).2
theorem E_w_eqByteS : ∀ x, (mkFn cfg [] A_w_eqByteS 26 [.tmp 4] (Tryz.f16.body.getD .skip) p_w_eqByteS r_w_eqByteS).fn x = B_w_eqByteS x.1 x.2.1 := by intro x; kernel_rfl
theorem S_w_eqByteS : Sound Tryz.prog 16 F_w_eqByteS := sm MO cfg_ok tab_nil Tryz.func16 (by kernel_rfl) (by decide) (E_w_eqByteS)
abbrev p_w_eqField : List PK := [.val true kField false, .val true kField false]
abbrev r_w_eqField : List RK := [.val false .bool]
noncomputable def D_w_eqField (f : Y_w_eqField) : Nat × Fn := (146, ⟨p_w_eqField, r_w_eqField, fun x => f x.1 x.2.1⟩)
noncomputable def F_w_eqField : Fn := (D_w_eqField P_w_eqField).2
theorem E_w_eqField : ∀ x, (mkFn cfg [] (lookN []) 15 [.tmp 4] (Tryz.f146.body.getD .skip) p_w_eqField r_w_eqField).fn x = B_w_eqField x.1 x.2.1 := by intro x; kernel_rfl
theorem S_w_eqField : Sound Tryz.prog 146 F_w_eqField := sm MO cfg_ok tab_nil Tryz.func146 (by kernel_rfl) (by decide) (E_w_eqField)
def A_w_eqFieldS : Nat → Option Jn := lookN [(58, ⟨[.t 5 false [.int .i64]], lt 11 16 [], false⟩)]
abbrev p_w_eqFieldS : List PK := [.val false (.rs 150 kField) false, .val false (.rs 150 kField) false]
abbrev r_w_eqFieldS : List RK := [.val false .bool]
noncomputable def D_w_eqFieldS (f : Y_w_eqFieldS) : Nat × Fn := (70, ⟨p_w_eqFieldS, r_w_eqFieldS, fun x => f x.1 x.2.1⟩)
noncomputable def F_w_eqFieldS : Fn := (D_w_eqFieldS P_w_eqFieldS).2
theorem E_w_eqFieldS (f_w_eqField : Y_w_eqField) : ∀ x, (mkFn cfg [D_w_eqField f_w_eqField] A_w_eqFieldS 27 [.tmp 4] (Tryz.f70.body.getD .skip) p_w_eqFieldS r_w_eqFieldS).fn x = B_w_eqFieldS f_w_eqField x.1 x.2.1 := by intro x; kernel_rfl
theorem S_w_eqFieldS : Sound Tryz.prog 70 F_w_eqFieldS := sm MO cfg_ok (tc Tryz.call146 S_w_eqField tab_nil) Tryz.func70 (by kernel_rfl) (by decide) (E_w_eqFieldS P_w_eqField)
abbrev p_w_eqTable : List PK := [.val true (.pair (.int .i64) (.rs 150 kField)) false, .val true (.pair (.int .i64) (.rs 150 kField)) false]
abbrev r_w_eqTable : List RK := [.val false .bool]
noncomputable def D_w_eqTable (f : Y_w_eqTable) : Nat × Fn := (17, ⟨p_w_eqTable, r_w_eqTable, fun x => f x.1 x.2.1⟩)
noncomputable def F_w_eqTable : Fn := (D_w_eqTable P_w_eqTable).2
theorem E_w_eqTable (f_w_eqFieldS : Y_w_eqFieldS) : ∀ x, (mkFn cfg [D_w_eqFieldS f_w_eqFieldS] (lookN []) 16 [.tmp 4] (Tryz.f17.body.getD .skip) p_w_eqTable r_w_eqTable).fn x = B_w_eqTable f_w_eqFieldS x.1 x.2.1 := by intro x; kernel_rfl
theorem S_w_eqTable : Sound Tryz.prog 17 F_w_eqTable := sm MO cfg_ok (tc Tryz.call70 S_w_eqFieldS tab_nil) Tryz.func17 (by kernel_rfl) (by decide) (E_w_eqTable P_w_eqFieldS)
def A_w_markText : Nat → Option Jn := lookN [(15, ⟨[.t 3 false [.str]], lt 6 12 [.r 12, .t 0], true⟩), (60, ⟨[.t 0 false [.int .i64], .t 3 false [.str]], lt 6 12 [.r 12], false⟩)]
abbrev p_w_markText : List PK := [.val false (.int .i64) false]
abbrev r_w_markText : List RK := [.val false .str]
noncomputable def D_w_markText (f : Y_w_markText) : Nat × Fn := (124, ⟨p_w_markText, r_w_markText, fun x => f x.1⟩)
noncomputable def F_w_markText : Fn := (D_w_markText P_w_markText).2
theorem E_w_markText : ∀ x, (mkFn cfg [] A_w_markText 20 [.tmp 2] (Tryz.f124.body.getD .skip) p_w_markText r_w_markText).fn x = B_w_markText x.1 := by intro x; kernel_rfl
theorem S_w_markText : Sound Tryz.prog 124 F_w_markText := sm MO cfg_ok tab_nil Tryz.func124 (by kernel_rfl) (by decide) (E_w_markText)
def A_w_markFieldS : Nat → Option Jn := lookN [(26, ⟨[.t 0 false [.own 1000], .t 1 false [.int .i64], .t 5 false [.int .i64], .r 1000 150 kField], lt 6 22 [.x 16, .x 24], false⟩)]
abbrev p_w_markFieldS : List PK := [.val false (.sl 150 kField) true, .val false (.int .i64) false]
abbrev r_w_markFieldS : List RK := [.val false (.int .i64)]
noncomputable def D_w_markFieldS (f : Y_w_markFieldS) : Nat × Fn := (71, ⟨p_w_markFieldS, r_w_markFieldS, fun x => f x.1 x.2.1⟩)
noncomputable def F_w_markFieldS : Fn := (D_w_markFieldS P_w_markFieldS).2
theorem E_w_markFieldS (f_w_markText : Y_w_markText) : ∀ x, (mkFn cfg [D_w_markText f_w_markText] A_w_markFieldS 29 [.tmp 4] (Tryz.f71.body.getD .skip) p_w_markFieldS r_w_markFieldS).fn x = B_w_markFieldS f_w_markText x.1 x.2.1 := by intro x; kernel_rfl
theorem S_w_markFieldS : Sound Tryz.prog 71 F_w_markFieldS := sm MO cfg_ok (tc Tryz.call124 S_w_markText tab_nil) Tryz.func71 (by kernel_rfl) (by decide) (E_w_markFieldS P_w_markText)
abbrev p_w_markTable : List PK := [.val true kTable true, .val false (.int .i64) false]
abbrev r_w_markTable : List RK := [.val false (.int .i64)]
noncomputable def D_w_markTable (f : Y_w_markTable) : Nat × Fn := (18, ⟨p_w_markTable, r_w_markTable, fun x => f x.1 x.2.1⟩)
noncomputable def F_w_markTable : Fn := (D_w_markTable P_w_markTable).2
theorem E_w_markTable (f_w_markFieldS : Y_w_markFieldS) : ∀ x, (mkFn cfg [D_w_markFieldS f_w_markFieldS] (lookN []) 10 [.tmp 4] (Tryz.f18.body.getD .skip) p_w_markTable r_w_markTable).fn x = B_w_markTable f_w_markFieldS x.1 x.2.1 := by intro x; kernel_rfl
theorem S_w_markTable : Sound Tryz.prog 18 F_w_markTable := sm MO cfg_ok (tc Tryz.call71 S_w_markFieldS tab_nil) Tryz.func18 (by kernel_rfl) (by decide) (E_w_markTable P_w_markFieldS)
def A_w_markByteS : Nat → Option Jn := lookN [(26, ⟨[.t 0 false [.own 1000], .t 1 false [.int .i64], .t 5 false [.int .i64], .r 1000 5 (.int .u8)], lt 6 13 [.x 16], false⟩)]
abbrev p_w_markByteS : List PK := [.val false (.sl 5 (.int .u8)) true, .val false (.int .i64) false]
abbrev r_w_markByteS : List RK := [.val false (.int .i64)]
noncomputable def D_w_markByteS (f : Y_w_markByteS) : Nat × Fn := (19, ⟨p_w_markByteS, r_w_markByteS, fun x => f x.1 x.2.1⟩)
noncomputable def F_w_markByteS : Fn := (D_w_markByteS P_w_markByteS).2
theorem E_w_markByteS : ∀ x, (mkFn cfg [] A_w_markByteS 20 [.tmp 4] (Tryz.f19.body.getD .skip) p_w_markByteS r_w_markByteS).fn x = B_w_markByteS x.1 x.2.1 := by intro x; kernel_rfl
theorem S_w_markByteS : Sound Tryz.prog 19 F_w_markByteS := sm MO cfg_ok tab_nil Tryz.func19 (by kernel_rfl) (by decide) (E_w_markByteS)
def A_w_heldByteS : Nat → Option Jn := lookN [(26, ⟨[.t 1 false [.int .i64], .t 5 false [.int .i64]], lt 6 15 [], false⟩)]
abbrev p_w_heldByteS : List PK := [.val false (.rs 5 (.int .u8)) false, .val false (.int .i64) false]
abbrev r_w_heldByteS : List RK := [.val false (.int .i64)]
noncomputable def D_w_heldByteS (f : Y_w_heldByteS) : Nat × Fn := (20, ⟨p_w_heldByteS, r_w_heldByteS, fun x => f x.1 x.2.1⟩)
noncomputable def F_w_heldByteS : Fn := (D_w_heldByteS P_w_heldByteS).2
theorem E_w_heldByteS : ∀ x, (mkFn cfg [] A_w_heldByteS 22 [.tmp 4] (Tryz.f20.body.getD .skip) p_w_heldByteS r_w_heldByteS).fn x = B_w_heldByteS x.1 x.2.1 := by intro x; kernel_rfl
theorem S_w_heldByteS : Sound Tryz.prog 20 F_w_heldByteS := sm MO cfg_ok tab_nil Tryz.func20 (by kernel_rfl) (by decide) (E_w_heldByteS)
def A_w_heldFieldS : Nat → Option Jn := lookN [(26, ⟨[.t 1 false [.int .i64], .t 5 false [.int .i64]], lt 6 26 [], false⟩)]
abbrev p_w_heldFieldS : List PK := [.val false (.rs 150 kField) false, .val false (.int .i64) false]
abbrev r_w_heldFieldS : List RK := [.val false (.int .i64)]
noncomputable def D_w_heldFieldS (f : Y_w_heldFieldS) : Nat × Fn := (72, ⟨p_w_heldFieldS, r_w_heldFieldS, fun x => f x.1 x.2.1⟩)
noncomputable def F_w_heldFieldS : Fn := (D_w_heldFieldS P_w_heldFieldS).2
theorem E_w_heldFieldS (f_w_markText : Y_w_markText) : ∀ x, (mkFn cfg [D_w_markText f_w_markText] A_w_heldFieldS 33 [.tmp 4] (Tryz.f72.body.getD .skip) p_w_heldFieldS r_w_heldFieldS).fn x = B_w_heldFieldS f_w_markText x.1 x.2.1 := by intro x; kernel_rfl
theorem S_w_heldFieldS : Sound Tryz.prog 72 F_w_heldFieldS := sm MO cfg_ok (tc Tryz.call124 S_w_markText tab_nil) Tryz.func72 (by kernel_rfl) (by decide) (E_w_heldFieldS P_w_markText)
abbrev p_w_heldTable : List PK := [.val true (.pair (.int .i64) (.rs 150 kField)) false, .val false (.int .i64) false]
abbrev r_w_heldTable : List RK := [.val false (.int .i64)]
noncomputable def D_w_heldTable (f : Y_w_heldTable) : Nat × Fn := (21, ⟨p_w_heldTable, r_w_heldTable, fun x => f x.1 x.2.1⟩)
noncomputable def F_w_heldTable : Fn := (D_w_heldTable P_w_heldTable).2
theorem E_w_heldTable (f_w_heldFieldS : Y_w_heldFieldS) : ∀ x, (mkFn cfg [D_w_heldFieldS f_w_heldFieldS] (lookN []) 12 [.tmp 4] (Tryz.f21.body.getD .skip) p_w_heldTable r_w_heldTable).fn x = B_w_heldTable f_w_heldFieldS x.1 x.2.1 := by intro x; kernel_rfl
theorem S_w_heldTable : Sound Tryz.prog 21 F_w_heldTable := sm MO cfg_ok (tc Tryz.call72 S_w_heldFieldS tab_nil) Tryz.func21 (by kernel_rfl) (by decide) (E_w_heldTable P_w_heldFieldS)
def A_s_AskWith_r99_0 : Nat → Option Jn := lookN [(3, ⟨[], lt 18 13 [], false⟩), (6, ⟨[.t 30 false [.bool]], lt 18 12 [], true⟩), (31, ⟨[.t 4 false [.int .i64]], [.t 49, .t 50], true⟩), (63, ⟨[.t 4 false [.int .i64]], [.t 51, .t 52], true⟩), (127, ⟨[.t 14 false [.own 100004000], .r 100004000 5 (.int .u8)], lt 53 30 (lt 15 3 [.b 17, .r 72, .r 77, .r 82, .r 200704, .r 335872]), true⟩), (1018, ⟨[.t 14 false [.own 100004000], .t 15 false [.int .i64], .r 100004000 5 (.int .u8)], lt 53 30 [.b 17, .r 72, .r 77, .r 82, .r 200704, .r 335872, .t 16, .t 17], false⟩), (65171, ⟨[.t 16 false [.int .i64], .b 17 [.int .i64, .int .i64, .int .i64, .nil]], lt 65 7 [], true⟩)]
abbrev p_s_AskWith_r99_0 : List PK := [.val true (.pair (.int .i64) (.rs 150 kField)) false, .val false (.int .i64) false, .val true kReq false, .val false (.rs 5 (.int .u8)) false, .val false (.int .i64) false]
abbrev r_s_AskWith_r99_0 : List RK := [.val false (.sl 5 (.int .u8)), .val true (.pair (.int .i64) (.rs 150 kField))]
noncomputable def D_s_AskWith_r99_0 (f : Y_s_AskWith_r99_0) : Nat × Fn := (11, ⟨p_s_AskWith_r99_0, r_s_AskWith_r99_0, fun x => f x.1 x.2.1 x.2.2.1 x.2.2.2.1 x.2.2.2.2.1⟩)
noncomputable def F_s_AskWith_r99_0 : Fn := (D_s_AskWith_r99_0 P_s_AskWith_r99_0).2
theorem E_s_AskWith_r99_0 (f_s_TableOk : Y_s_TableOk) (f_s_ReqOk : Y_s_ReqOk) (f_s_l1In : Y_s_l1In) (f_s_l4Copy : Y_s_l4Copy) (f_s_PutFields_r99_0 : Y_s_PutFields_r99_0) (f_s_FieldsOf : Y_s_FieldsOf) (f_s_l16Frames : Y_s_l16Frames) (f_s_Part : Y_s_Part) (f_s_PutFrame : Y_s_PutFrame) : ∀ x, (mkFn cfg [D_s_TableOk f_s_TableOk, D_s_ReqOk f_s_ReqOk, D_s_l1In f_s_l1In, D_s_l4Copy f_s_l4Copy, D_s_PutFields_r99_0 f_s_PutFields_r99_0, D_s_FieldsOf f_s_FieldsOf, D_s_l16Frames f_s_l16Frames, D_s_Part f_s_Part, D_s_PutFrame f_s_PutFrame] A_s_AskWith_r99_0 85 [.tmp 10, .cell 11 32] (Tryz.f11.body.getD .skip) p_s_AskWith_r99_0 r_s_AskWith_r99_0).fn x = B_s_AskWith_r99_0 f_s_TableOk f_s_ReqOk f_s_l1In f_s_l4Copy f_s_PutFields_r99_0 f_s_FieldsOf f_s_l16Frames f_s_Part f_s_PutFrame x.1 x.2.1 x.2.2.1 x.2.2.2.1 x.2.2.2.2.1 := by intro x; kernel_rfl
theorem S_s_AskWith_r99_0 : Sound Tryz.prog 11 F_s_AskWith_r99_0 := sm MO cfg_ok (tc Tryz.call51 S_s_TableOk (tc Tryz.call52 S_s_ReqOk (tc Tryz.call53 S_s_l1In (tc Tryz.call54 S_s_l4Copy (tc Tryz.call55 S_s_PutFields_r99_0 (tc Tryz.call56 S_s_FieldsOf (tc Tryz.call57 S_s_l16Frames (tc Tryz.call58 S_s_Part (tc Tryz.call59 S_s_PutFrame tab_nil))))))))) Tryz.func11 (by kernel_rfl) (by decide) (E_s_AskWith_r99_0 P_s_TableOk P_s_ReqOk P_s_l1In P_s_l4Copy P_s_PutFields_r99_0 P_s_FieldsOf P_s_l16Frames P_s_Part P_s_PutFrame)
def A_w_FnExactAskWith : Nat → Option Jn := lookN [(4095, ⟨[], lt 62 10 [], false⟩), (262143, ⟨[], lt 88 14 [], false⟩), (536870911, ⟨[], lt 133 10 [], false⟩)]
abbrev p_w_FnExactAskWith : List PK := [.val true (.pair (.int .i64) (.rs 161 kField)) false, .val false (.int .i64) false, .val true kReq false, .val false (.rs 5 (.int .u8)) false, .val false (.int .i64) false]
abbrev r_w_FnExactAskWith : List RK := [.val false .bool]
noncomputable def D_w_FnExactAskWith (f : Y_w_FnExactAskWith) : Nat × Fn := (3, ⟨p_w_FnExactAskWith, r_w_FnExactAskWith, fun x => f x.1 x.2.1 x.2.2.1 x.2.2.2.1 x.2.2.2.2.1⟩)
noncomputable def F_w_FnExactAskWith : Fn := (D_w_FnExactAskWith P_w_FnExactAskWith).2
theorem E_w_FnExactAskWith (f_w_szTable : Y_w_szTable) (f_w_szReq : Y_w_szReq) (f_s_AskWith_r99_0 : Y_s_AskWith_r99_0) (f_w_toTable : Y_w_toTable) (f_w_toReq : Y_w_toReq) (f_w_toByteS : Y_w_toByteS) (f_i_AskWith : Y_i_AskWith) (f_w_eqByteS : Y_w_eqByteS) (f_w_eqTable : Y_w_eqTable) (f_w_markTable : Y_w_markTable) (f_w_markByteS : Y_w_markByteS) (f_w_heldByteS : Y_w_heldByteS) (f_w_heldTable : Y_w_heldTable) : ∀ x, (mkFn cfg [D_w_szTable f_w_szTable, D_w_szReq f_w_szReq, D_s_AskWith_r99_0 f_s_AskWith_r99_0, D_w_toTable f_w_toTable, D_w_toReq f_w_toReq, D_w_toByteS f_w_toByteS, D_i_AskWith f_i_AskWith, D_w_eqByteS f_w_eqByteS, D_w_eqTable f_w_eqTable, D_w_markTable f_w_markTable, D_w_markByteS f_w_markByteS, D_w_heldByteS f_w_heldByteS, D_w_heldTable f_w_heldTable] A_w_FnExactAskWith 156 [.tmp 10] (Tryz.f3.body.getD .skip) p_w_FnExactAskWith r_w_FnExactAskWith).fn x = B_w_FnExactAskWith f_w_szTable f_w_szReq f_s_AskWith_r99_0 f_w_toTable f_w_toReq f_w_toByteS f_i_AskWith f_w_eqByteS f_w_eqTable f_w_markTable f_w_markByteS f_w_heldByteS f_w_heldTable x.1 x.2.1 x.2.2.1 x.2.2.2.1 x.2.2.2.2.1 := by intro x; kernel_rfl
theorem S_w_FnExactAskWith : Sound Tryz.prog 3 F_w_FnExactAskWith := sm MO cfg_ok (tc Tryz.call9 S_w_szTable (tc Tryz.call10 S_w_szReq (tc Tryz.call11 S_s_AskWith_r99_0 (tc Tryz.call12 S_w_toTable (tc Tryz.call13 S_w_toReq (tc Tryz.call14 S_w_toByteS (tc Tryz.call15 S_i_AskWith (tc Tryz.call16 S_w_eqByteS (tc Tryz.call17 S_w_eqTable (tc Tryz.call18 S_w_markTable (tc Tryz.call19 S_w_markByteS (tc Tryz.call20 S_w_heldByteS (tc Tryz.call21 S_w_heldTable tab_nil))))))))))))) Tryz.func3 (by kernel_rfl) (by decide) (E_w_FnExactAskWith P_w_szTable P_w_szReq P_s_AskWith_r99_0 P_w_toTable P_w_toReq P_w_toByteS P_i_AskWith P_w_eqByteS P_w_eqTable P_w_markTable P_w_markByteS P_w_heldByteS P_w_heldTable)
end Go.Proofs.YthnfghmjipikhaaGreatDoor.Ev
