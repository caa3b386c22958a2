/- Each function of the program does what its plain function says. -/
import Derived.Test.YthnfghmjipikhaaGreatDoorG1
set_option linter.unusedVariables false
set_option maxRecDepth 100000
namespace Go.Proofs.YthnfghmjipikhaaGreatDoor.Ev
def A_i_ConnOk : Nat → Option Jn := lookN [(3, ⟨[], lt 6 27 [], false⟩), (7, ⟨[], lt 33 16 [], false⟩), (15, ⟨[], lt 49 31 [], false⟩)]
abbrev p_i_ConnOk : List PK := [.val true (.pair (.int .i64) (.pair (.rs 5 (.int .u8)) (.pair (.pair (.int .i64) (.pair .bool (.rs 5 (.int .u8)))) (.pair (.pair (.int .i64) (.rs 150 kField)) (.pair (.pair (.int .i64) (.rs 150 kField)) (.pair (.rs 113 kStr) kResp)))))) false]
abbrev r_i_ConnOk : List RK := [.val false .bool]
noncomputable def D_i_ConnOk (f : Y_i_ConnOk) : Nat × Fn := (43, ⟨p_i_ConnOk, r_i_ConnOk, fun x => f x.1⟩)
noncomputable def F_i_ConnOk : Fn := (D_i_ConnOk P_i_ConnOk).2
theorem E_i_ConnOk (f_i_inRange : Y_i_inRange) (f_i_TableOk : Y_i_TableOk) (f_i_GetFrame : Y_i_GetFrame) (f_i_GatherOk : Y_i_GatherOk) (f_i_strsOk : Y_i_strsOk) : ∀ x, (mkFn cfg [D_i_inRange f_i_inRange, D_i_TableOk f_i_TableOk, D_i_GetFrame f_i_GetFrame, D_i_GatherOk f_i_GatherOk, D_i_strsOk f_i_strsOk] A_i_ConnOk 89 [.tmp 2] (Tryz.f43.body.getD .skip) p_i_ConnOk r_i_ConnOk).fn x = B_i_ConnOk f_i_inRange f_i_TableOk f_i_GetFrame f_i_GatherOk f_i_strsOk x.1 := by intro x; kernel_rfl
theorem S_i_ConnOk : Sound Tryz.prog 43 F_i_ConnOk := sm MO cfg_ok (tc Tryz.call61 S_i_inRange (tc Tryz.call63 S_i_TableOk (tc Tryz.call103 S_i_GetFrame (tc Tryz.call104 S_i_GatherOk (tc Tryz.call116 S_i_strsOk tab_nil))))) Tryz.func43 (by kernel_rfl) (by decide) (E_i_ConnOk P_i_inRange P_i_TableOk P_i_GetFrame P_i_GatherOk P_i_strsOk)
abbrev p_slices_Clone_impl_Field_impl_Field : List PK := [.val false (.rs 150 kField) false]
abbrev r_slices_Clone_impl_Field_impl_Field : List RK := [.val false (.sl 150 kField)]
noncomputable def D_slices_Clone_impl_Field_impl_Field (f : Y_slices_Clone_impl_Field_impl_Field) : Nat × Fn := (139, ⟨p_slices_Clone_impl_Field_impl_Field, r_slices_Clone_impl_Field_impl_Field, fun x => f x.1⟩)
noncomputable def F_slices_Clone_impl_Field_impl_Field : Fn := (D_slices_Clone_impl_Field_impl_Field P_slices_Clone_impl_Field_impl_Field).2
theorem E_slices_Clone_impl_Field_impl_Field : ∀ x, (mkFn cfg [] (lookN []) 8 [.tmp 2] (Tryz.f139.body.getD .skip) p_slices_Clone_impl_Field_impl_Field r_slices_Clone_impl_Field_impl_Field).fn x = B_slices_Clone_impl_Field_impl_Field x.1 := by intro x; kernel_rfl
theorem S_slices_Clone_impl_Field_impl_Field : Sound Tryz.prog 139 F_slices_Clone_impl_Field_impl_Field := sm MO cfg_ok tab_nil Tryz.func139 (by kernel_rfl) (by decide) (E_slices_Clone_impl_Field_impl_Field)
abbrev p_i_copyTable : List PK := [.val true (.pair (.int .i64) (.rs 150 kField)) false]
abbrev r_i_copyTable : List RK := [.val true kTable]
noncomputable def D_i_copyTable (f : Y_i_copyTable) : Nat × Fn := (64, ⟨p_i_copyTable, r_i_copyTable, fun x => f x.1⟩)
noncomputable def F_i_copyTable : Fn := (D_i_copyTable P_i_copyTable).2
theorem E_i_copyTable (f_slices_Clone_impl_Field_impl_Field : Y_slices_Clone_impl_Field_impl_Field) : ∀ x, (mkFn cfg [D_slices_Clone_impl_Field_impl_Field f_slices_Clone_impl_Field_impl_Field] (lookN []) 9 [.cell 2 32] (Tryz.f64.body.getD .skip) p_i_copyTable r_i_copyTable).fn x = B_i_copyTable f_slices_Clone_impl_Field_impl_Field x.1 := by intro x; kernel_rfl
theorem S_i_copyTable : Sound Tryz.prog 64 F_i_copyTable := sm MO cfg_ok (tc Tryz.call139 S_slices_Clone_impl_Field_impl_Field tab_nil) Tryz.func64 (by kernel_rfl) (by decide) (E_i_copyTable P_slices_Clone_impl_Field_impl_Field)
def A_i_Table_trim : Nat → Option Jn := lookN [(14, ⟨[.t 2 false [.int .i64], .t 14 false [.int .i64]], lt 15 10 [.b 4, .t 3, .t 4, .t 35, .x 17], false⟩)]
abbrev p_i_Table_trim : List PK := [.ptr kTable]
abbrev r_i_Table_trim : List RK := []
noncomputable def D_i_Table_trim (f : Y_i_Table_trim) : Nat × Fn := (195, ⟨p_i_Table_trim, r_i_Table_trim, fun x => f x.1⟩)
noncomputable def F_i_Table_trim : Fn := (D_i_Table_trim P_i_Table_trim).2
theorem E_i_Table_trim (f_slices_Clone_impl_Field_impl_Field : Y_slices_Clone_impl_Field_impl_Field) (f_i_sizeOf : Y_i_sizeOf) : ∀ x, (mkFn cfg [D_slices_Clone_impl_Field_impl_Field f_slices_Clone_impl_Field_impl_Field, D_i_sizeOf f_i_sizeOf] A_i_Table_trim 36 [] (Tryz.f195.body.getD .skip) p_i_Table_trim r_i_Table_trim).fn x = B_i_Table_trim f_slices_Clone_impl_Field_impl_Field f_i_sizeOf x.1 := by intro x; kernel_rfl
theorem S_i_Table_trim : Sound Tryz.prog 195 F_i_Table_trim := sm MO cfg_ok (tc Tryz.call139 S_slices_Clone_impl_Field_impl_Field (tc Tryz.call179 S_i_sizeOf tab_nil)) Tryz.func195 (by kernel_rfl) (by decide) (E_i_Table_trim P_slices_Clone_impl_Field_impl_Field P_i_sizeOf)
abbrev p_i_Table_add : List PK := [.ptr kTable, .val true kField false]
abbrev r_i_Table_add : List RK := []
noncomputable def D_i_Table_add (f : Y_i_Table_add) : Nat × Fn := (161, ⟨p_i_Table_add, r_i_Table_add, fun x => f x.1 x.2.1⟩)
noncomputable def F_i_Table_add : Fn := (D_i_Table_add P_i_Table_add).2
theorem E_i_Table_add (f_slices_Insert_impl_Field_impl_Field : Y_slices_Insert_impl_Field_impl_Field) (f_i_Table_trim : Y_i_Table_trim) : ∀ x, (mkFn cfg [D_slices_Insert_impl_Field_impl_Field f_slices_Insert_impl_Field_impl_Field, D_i_Table_trim f_i_Table_trim] (lookN []) 16 [] (Tryz.f161.body.getD .skip) p_i_Table_add r_i_Table_add).fn x = B_i_Table_add f_slices_Insert_impl_Field_impl_Field f_i_Table_trim x.1 x.2.1 := by intro x; kernel_rfl
theorem S_i_Table_add : Sound Tryz.prog 161 F_i_Table_add := sm MO cfg_ok (tc Tryz.call194 S_slices_Insert_impl_Field_impl_Field (tc Tryz.call195 S_i_Table_trim tab_nil)) Tryz.func161 (by kernel_rfl) (by decide) (E_i_Table_add P_slices_Insert_impl_Field_impl_Field P_i_Table_trim)
def A_slices_Concat_impl_Field_impl_Field : Nat → Option Jn := lookN [(7, ⟨[.t 3 false [.int .i64]], lt 9 12 [.t 5, .t 22], true⟩), (58, ⟨[.t 3 false [.int .i64], .t 11 false [.int .i64]], lt 12 9 [.t 5, .t 22], false⟩), (250, ⟨[.t 6 false [.own 100002000], .t 27 false [.int .i64], .r 100002000 150 kField], lt 28 7 [.r 33, .r 102400, .t 8], false⟩)]
abbrev p_slices_Concat_impl_Field_impl_Field : List PK := [.val false (.rs 30 (.sl 150 kField)) false]
abbrev r_slices_Concat_impl_Field_impl_Field : List RK := [.val false (.sl 150 kField)]
noncomputable def D_slices_Concat_impl_Field_impl_Field (f : Y_slices_Concat_impl_Field_impl_Field) : Nat × Fn := (208, ⟨p_slices_Concat_impl_Field_impl_Field, r_slices_Concat_impl_Field_impl_Field, fun x => f x.1⟩)
noncomputable def F_slices_Concat_impl_Field_impl_Field : Fn := (D_slices_Concat_impl_Field_impl_Field P_slices_Concat_impl_Field_impl_Field).2
theorem E_slices_Concat_impl_Field_impl_Field (f_slices_Grow_impl_Field_impl_Field : Y_slices_Grow_impl_Field_impl_Field) : ∀ x, (mkFn cfg [D_slices_Grow_impl_Field_impl_Field f_slices_Grow_impl_Field_impl_Field] A_slices_Concat_impl_Field_impl_Field 36 [.tmp 2] (Tryz.f208.body.getD .skip) p_slices_Concat_impl_Field_impl_Field r_slices_Concat_impl_Field_impl_Field).fn x = B_slices_Concat_impl_Field_impl_Field f_slices_Grow_impl_Field_impl_Field x.1 := by intro x; kernel_rfl
theorem S_slices_Concat_impl_Field_impl_Field : Sound Tryz.prog 208 F_slices_Concat_impl_Field_impl_Field := sm MO cfg_ok (tc Tryz.call230 S_slices_Grow_impl_Field_impl_Field tab_nil) Tryz.func208 (by kernel_rfl) (by decide) (E_slices_Concat_impl_Field_impl_Field P_slices_Grow_impl_Field_impl_Field)
def A_i_firstFields : Nat → Option Jn := lookN [(58, ⟨[.t 1 false [.own 100000000], .t 9 false [.int .i64], .r 100000000 150 kField], lt 10 16 (lt 3 4 [.r 23, .r 24, .x 11]), false⟩)]
abbrev p_i_firstFields : List PK := []
abbrev r_i_firstFields : List RK := [.val false (.sl 150 kField)]
noncomputable def D_i_firstFields (f : Y_i_firstFields) : Nat × Fn := (209, ⟨p_i_firstFields, r_i_firstFields, fun x => f⟩)
noncomputable def F_i_firstFields : Fn := (D_i_firstFields P_i_firstFields).2
theorem E_i_firstFields (f_strings_Split : Y_strings_Split) (f_strings_Cut : Y_strings_Cut) : ∀ x, (mkFn cfg [D_strings_Split f_strings_Split, D_strings_Cut f_strings_Cut] A_i_firstFields 27 [.tmp 0] (Tryz.f209.body.getD .skip) p_i_firstFields r_i_firstFields).fn x = B_i_firstFields f_strings_Split f_strings_Cut := by intro x; kernel_rfl
theorem S_i_firstFields : Sound Tryz.prog 209 F_i_firstFields := sm MO cfg_ok (tc Tryz.call231 S_strings_Split (tc Tryz.call232 S_strings_Cut tab_nil)) Tryz.func209 (by kernel_rfl) (by decide) (E_i_firstFields P_strings_Split P_strings_Cut)
def A_i_putPrefix : Nat → Option Jn := lookN [(255, ⟨[.t 0 false [.own 100000000], .t 3 false [.int .i64], .r 100000000 5 (.int .u8)], lt 41 11 [.r 37, .r 48, .r 49], true⟩), (1020, ⟨[.t 0 false [.own 100000000], .t 3 false [.int .i64], .r 100000000 5 (.int .u8)], lt 41 11 [.r 37, .r 48, .r 49], false⟩)]
abbrev p_i_putPrefix : List PK := [.val false (.sl 5 (.int .u8)) false, .val false (.int .i64) false, .val false (.int .i64) false, .val false (.int .i64) false]
abbrev r_i_putPrefix : List RK := [.val false (.sl 5 (.int .u8))]
noncomputable def D_i_putPrefix (f : Y_i_putPrefix) : Nat × Fn := (181, ⟨p_i_putPrefix, r_i_putPrefix, fun x => f x.1 x.2.1 x.2.2.1 x.2.2.2.1⟩)
noncomputable def F_i_putPrefix : Fn := (D_i_putPrefix P_i_putPrefix).2
theorem E_i_putPrefix : ∀ x, (mkFn cfg [] A_i_putPrefix 57 [.tmp 8] (Tryz.f181.body.getD .skip) p_i_putPrefix r_i_putPrefix).fn x = B_i_putPrefix x.1 x.2.1 x.2.2.1 x.2.2.2.1 := by intro x; kernel_rfl
theorem S_i_putPrefix : Sound Tryz.prog 181 F_i_putPrefix := sm MO cfg_ok tab_nil Tryz.func181 (by kernel_rfl) (by decide) (E_i_putPrefix)
abbrev p_i_formOf : List PK := [.val false (.int .i64) false]
abbrev r_i_formOf : List RK := [.val false (.int .i64), .val false (.int .i64)]
noncomputable def D_i_formOf (f : Y_i_formOf) : Nat × Fn := (182, ⟨p_i_formOf, r_i_formOf, fun x => f x.1⟩)
noncomputable def F_i_formOf : Fn := (D_i_formOf P_i_formOf).2
theorem E_i_formOf : ∀ x, (mkFn cfg [] (lookN []) 9 [.tmp 2, .tmp 3] (Tryz.f182.body.getD .skip) p_i_formOf r_i_formOf).fn x = B_i_formOf x.1 := by intro x; kernel_rfl
theorem S_i_formOf : Sound Tryz.prog 182 F_i_formOf := sm MO cfg_ok tab_nil Tryz.func182 (by kernel_rfl) (by decide) (E_i_formOf)
def A_i_codesOf : Nat → Option Jn := lookN [(7, ⟨[.r 1 247 kResp], lt 7 16 [.r 32768, .t 2, .t 3, .x 12, .x 20], true⟩), (58, ⟨[.t 9 false [.int .i64], .r 1 247 kResp], lt 10 13 [.t 2, .t 3, .x 12, .x 20], false⟩), (250, ⟨[.t 4 false [.int .i64], .t 5 false [.int .i64], .r 1 247 kResp], lt 23 22 [.t 6, .x 33, .x 40], false⟩), (32038, ⟨[.t 4 false [.int .i64], .t 29 false [.int .i64], .r 1 247 kResp], lt 30 15 [.t 6, .x 33, .x 40], false⟩)]
abbrev p_i_codesOf : List PK := []
abbrev r_i_codesOf : List RK := [.val false (.pa 257 kResp)]
noncomputable def D_i_codesOf (f : Y_i_codesOf) : Nat × Fn := (210, ⟨p_i_codesOf, r_i_codesOf, fun x => f⟩)
noncomputable def F_i_codesOf : Fn := (D_i_codesOf P_i_codesOf).2
theorem E_i_codesOf (f_strings_Split : Y_strings_Split) (f_strconv_Atoi : Y_strconv_Atoi) : ∀ x, (mkFn (cfg.withAr [(247, 257, 246)]) [D_strings_Split f_strings_Split, D_strconv_Atoi f_strconv_Atoi] A_i_codesOf 45 [.tmp 0] (Tryz.f210.body.getD .skip) p_i_codesOf r_i_codesOf).fn x = B_i_codesOf f_strings_Split f_strconv_Atoi := by intro x; kernel_rfl
theorem S_i_codesOf : Sound Tryz.prog 210 F_i_codesOf := sm MO (withAr_ok (l := [(247, 257, 246)]) cfg_ok ⟨arOk_mk (f := Tryz.t247) (ti := ⟨true, kResp, 16, [(0, 1, false), (1, 1, false)]⟩) Tryz.underlying247 (by kernel_rfl) (by kernel_rfl) (by kernel_rfl), trivial⟩) (tc Tryz.call231 S_strings_Split (tc Tryz.call233 S_strconv_Atoi tab_nil)) Tryz.func210 (by kernel_rfl) (by decide) (E_i_codesOf P_strings_Split P_strconv_Atoi)
def A_i_huffLen : Nat → Option Jn := lookN [(7, ⟨[.t 5 false [.int .i64]], lt 6 17 [], true⟩), (58, ⟨[.t 5 false [.int .i64], .t 6 false [.int .i64]], lt 7 16 [], false⟩)]
abbrev p_i_huffLen : List PK := [.val false (.pa 257 kResp) false, .val false .str false]
abbrev r_i_huffLen : List RK := [.val false (.int .i64)]
noncomputable def D_i_huffLen (f : Y_i_huffLen) : Nat × Fn := (211, ⟨p_i_huffLen, r_i_huffLen, fun x => f x.1 x.2.1⟩)
noncomputable def F_i_huffLen : Fn := (D_i_huffLen P_i_huffLen).2
theorem E_i_huffLen : ∀ x, (mkFn (cfg.withAr [(247, 257, 246)]) [] A_i_huffLen 26 [.tmp 4] (Tryz.f211.body.getD .skip) p_i_huffLen r_i_huffLen).fn x = B_i_huffLen x.1 x.2.1 := by intro x; kernel_rfl
theorem S_i_huffLen : Sound Tryz.prog 211 F_i_huffLen := sm MO (withAr_ok (l := [(247, 257, 246)]) cfg_ok ⟨arOk_mk (f := Tryz.t247) (ti := ⟨true, kResp, 16, [(0, 1, false), (1, 1, false)]⟩) Tryz.underlying247 (by kernel_rfl) (by kernel_rfl) (by kernel_rfl), trivial⟩) tab_nil Tryz.func211 (by kernel_rfl) (by decide) (E_i_huffLen)
def A_i_huff : Nat → Option Jn := lookN [(7, ⟨[.t 1 false [.own 100000001], .t 7 false [.int .i64], .t 8 false [.int .i64], .r 100000001 5 (.int .u8)], lt 12 43 [.b 10, .r 47, .r 48, .r 1100, .r 100001000, .t 9, .t 10], true⟩), (58, ⟨[.t 1 false [.own 100000001], .t 7 false [.int .i64], .t 8 false [.int .i64], .t 9 false [.int .i64], .r 100000001 5 (.int .u8)], lt 12 43 [.b 10, .r 47, .r 48, .r 1100, .r 100001000, .t 10], false⟩), (14926, ⟨[.t 1 false [.own 100001000], .t 7 false [.int .i64], .t 8 false [.int .i64], .r 100001000 5 (.int .u8)], lt 37 18 [.r 47, .r 48, .r 1100, .r 100000001], false⟩)]
abbrev p_i_huff : List PK := [.val false (.pa 257 kResp) false, .val false (.sl 5 (.int .u8)) false, .val false .str false]
abbrev r_i_huff : List RK := [.val false (.sl 5 (.int .u8))]
noncomputable def D_i_huff (f : Y_i_huff) : Nat × Fn := (212, ⟨p_i_huff, r_i_huff, fun x => f x.1 x.2.1 x.2.2.1⟩)
noncomputable def F_i_huff : Fn := (D_i_huff P_i_huff).2
theorem E_i_huff : ∀ x, (mkFn (cfg.withAr [(247, 257, 246)]) [] A_i_huff 72 [.tmp 6] (Tryz.f212.body.getD .skip) p_i_huff r_i_huff).fn x = B_i_huff x.1 x.2.1 x.2.2.1 := by intro x; kernel_rfl
theorem S_i_huff : Sound Tryz.prog 212 F_i_huff := sm MO (withAr_ok (l := [(247, 257, 246)]) cfg_ok ⟨arOk_mk (f := Tryz.t247) (ti := ⟨true, kResp, 16, [(0, 1, false), (1, 1, false)]⟩) Tryz.underlying247 (by kernel_rfl) (by kernel_rfl) (by kernel_rfl), trivial⟩) tab_nil Tryz.func212 (by kernel_rfl) (by decide) (E_i_huff)
abbrev p_i_putString : List PK := [.val false (.sl 5 (.int .u8)) false, .val false .str false]
abbrev r_i_putString : List RK := [.val false (.sl 5 (.int .u8))]
noncomputable def D_i_putString (f : Y_i_putString) : Nat × Fn := (183, ⟨p_i_putString, r_i_putString, fun x => f x.1 x.2.1⟩)
noncomputable def F_i_putString : Fn := (D_i_putString P_i_putString).2
theorem E_i_putString (f_i_putPrefix : Y_i_putPrefix) (f_i_codesOf : Y_i_codesOf) (f_i_huffLen : Y_i_huffLen) (f_i_huff : Y_i_huff) : ∀ x, (mkFn cfg [D_i_putPrefix f_i_putPrefix, D_i_codesOf f_i_codesOf, D_i_huffLen f_i_huffLen, D_i_huff f_i_huff] (lookN []) 27 [.tmp 4] (Tryz.f183.body.getD .skip) p_i_putString r_i_putString).fn x = B_i_putString f_i_putPrefix f_i_codesOf f_i_huffLen f_i_huff x.1 x.2.1 := by intro x; kernel_rfl
theorem S_i_putString : Sound Tryz.prog 183 F_i_putString := sm MO cfg_ok (tc Tryz.call181 S_i_putPrefix (tc Tryz.call210 S_i_codesOf (tc Tryz.call211 S_i_huffLen (tc Tryz.call212 S_i_huff tab_nil)))) Tryz.func183 (by kernel_rfl) (by decide) (E_i_putString P_i_putPrefix P_i_codesOf P_i_huffLen P_i_huff)
def A_i_FindField_r98_0_r99_0 : Nat → Option Jn := lookN [(7, ⟨[.t 6 false [.int .i64]], lt 25 12 (lt 7 16 [.b 8, .r 12, .r 40960, .r 57344, .x 18]), false⟩), (58, ⟨[.t 6 false [.int .i64], .t 15 false [.int .i64]], lt 25 12 (lt 16 7 [.b 8, .t 7, .t 8, .x 18]), false⟩)]
abbrev p_i_FindField_r98_0_r99_0 : List PK := [.val true (.pair (.int .i64) (.rs 150 kField)) false, .val true kField false]
abbrev r_i_FindField_r98_0_r99_0 : List RK := [.val false (.int .i64), .val false .bool]
noncomputable def D_i_FindField_r98_0_r99_0 (f : Y_i_FindField) : Nat × Fn := (180, ⟨p_i_FindField_r98_0_r99_0, r_i_FindField_r98_0_r99_0, fun x => f x.1 x.2.1⟩)
noncomputable def F_i_FindField_r98_0_r99_0 : Fn := (D_i_FindField_r98_0_r99_0 P_i_FindField).2
theorem E_i_FindField_r98_0_r99_0 (f_slices_Concat_impl_Field_impl_Field : Y_slices_Concat_impl_Field_impl_Field) (f_i_firstFields : Y_i_firstFields) : ∀ x, (mkFn (cfgR.withEq [(150, 1002)]) [D_slices_Concat_impl_Field_impl_Field f_slices_Concat_impl_Field_impl_Field, D_i_firstFields f_i_firstFields] A_i_FindField_r98_0_r99_0 38 [.tmp 4, .tmp 5] (Tryz.f180.body.getD .skip) p_i_FindField_r98_0_r99_0 r_i_FindField_r98_0_r99_0).fn x = B_i_FindField f_slices_Concat_impl_Field_impl_Field f_i_firstFields x.1 x.2.1 := by intro x; kernel_rfl
theorem S_i_FindField_r98_0_r99_0 : Sound Tryz.prog 180 F_i_FindField_r98_0_r99_0 := sm MO (withEq_ok (l := [(150, 1002)]) cfgR_ok ⟨eq150, trivial⟩) (tc Tryz.call208 S_slices_Concat_impl_Field_impl_Field (tc Tryz.call209 S_i_firstFields tab_nil)) Tryz.func180 (by kernel_rfl) (by decide) (E_i_FindField_r98_0_r99_0 P_slices_Concat_impl_Field_impl_Field P_i_firstFields)
def A_i_Table_put : Nat → Option Jn := lookN [(7, ⟨[], lt 21 5 [], false⟩), (63, ⟨[.t 1 false [.own 100001000], .r 100001000 5 (.int .u8)], lt 39 6 [.r 159744, .r 184320], true⟩)]
abbrev p_i_Table_put : List PK := [.ptr kTable, .val false (.sl 5 (.int .u8)) false, .val true kField false, .val false (.int .i64) false]
abbrev r_i_Table_put : List RK := [.val false (.sl 5 (.int .u8))]
noncomputable def D_i_Table_put (f : Y_i_Table_put) : Nat × Fn := (140, ⟨p_i_Table_put, r_i_Table_put, fun x => f x.1 x.2.1 x.2.2.1 x.2.2.2.1⟩)
noncomputable def F_i_Table_put : Fn := (D_i_Table_put P_i_Table_put).2
theorem E_i_Table_put (f_i_Table_add : Y_i_Table_add) (f_i_FindField : Y_i_FindField) (f_i_putPrefix : Y_i_putPrefix) (f_i_formOf : Y_i_formOf) (f_i_putString : Y_i_putString) : ∀ x, (mkFn cfg [D_i_Table_add f_i_Table_add, D_i_FindField_r98_0_r99_0 f_i_FindField, D_i_putPrefix f_i_putPrefix, D_i_formOf f_i_formOf, D_i_putString f_i_putString] A_i_Table_put 55 [.tmp 8] (Tryz.f140.body.getD .skip) p_i_Table_put r_i_Table_put).fn x = B_i_Table_put f_i_Table_add f_i_FindField f_i_putPrefix f_i_formOf f_i_putString x.1 x.2.1 x.2.2.1 x.2.2.2.1 := by intro x; kernel_rfl
theorem S_i_Table_put : Sound Tryz.prog 140 F_i_Table_put := sm MO cfg_ok (tc Tryz.call161 S_i_Table_add (tc Tryz.call180 S_i_FindField_r98_0_r99_0 (tc Tryz.call181 S_i_putPrefix (tc Tryz.call182 S_i_formOf (tc Tryz.call183 S_i_putString tab_nil))))) Tryz.func140 (by kernel_rfl) (by decide) (E_i_Table_put P_i_Table_add P_i_FindField P_i_putPrefix P_i_formOf P_i_putString)
def A_i_PutFields : Nat → Option Jn := lookN [(31, ⟨[.t 7 false [.own 100000001], .b 6 [.int .i64, .own 100000000], .r 100000000 150 kField, .r 100000001 5 (.int .u8)], lt 17 14 [.b 9, .r 53249, .r 122880, .r 124929, .t 9, .t 10], true⟩), (250, ⟨[.t 7 false [.own 100000001], .t 19 false [.int .i64], .b 6 [.int .i64, .own 100000000], .r 100000000 150 kField, .r 100000001 5 (.int .u8)], lt 20 11 [.b 9, .r 53249, .r 122880, .r 124929, .t 9, .t 10], false⟩)]
abbrev p_i_PutFields : List PK := [.val true (.pair (.int .i64) (.rs 150 kField)) false, .val false (.rs 150 kField) false]
abbrev r_i_PutFields : List RK := [.val false (.sl 5 (.int .u8)), .val true kTable]
noncomputable def D_i_PutFields (f : Y_i_PutFields) : Nat × Fn := (65, ⟨p_i_PutFields, r_i_PutFields, fun x => f x.1 x.2.1⟩)
noncomputable def F_i_PutFields : Fn := (D_i_PutFields P_i_PutFields).2
theorem E_i_PutFields (f_i_TableOk : Y_i_TableOk) (f_i_copyTable : Y_i_copyTable) (f_i_Table_put : Y_i_Table_put) : ∀ x, (mkFn cfg [D_i_TableOk f_i_TableOk, D_i_copyTable f_i_copyTable, D_i_Table_put f_i_Table_put] A_i_PutFields 33 [.tmp 4, .cell 5 32] (Tryz.f65.body.getD .skip) p_i_PutFields r_i_PutFields).fn x = B_i_PutFields f_i_TableOk f_i_copyTable f_i_Table_put x.1 x.2.1 := by intro x; kernel_rfl
theorem S_i_PutFields : Sound Tryz.prog 65 F_i_PutFields := sm MO cfg_ok (tc Tryz.call63 S_i_TableOk (tc Tryz.call64 S_i_copyTable (tc Tryz.call140 S_i_Table_put tab_nil))) Tryz.func65 (by kernel_rfl) (by decide) (E_i_PutFields P_i_TableOk P_i_copyTable P_i_Table_put)
def A_i_putBig : Nat → Option Jn := lookN [(58, ⟨[.t 0 false [.own 100000000], .t 7 false [.int .i64], .r 100000000 5 (.int .u8)], lt 12 13 [.r 23, .r 24, .r 1000], false⟩)]
abbrev p_i_putBig : List PK := [.val false (.sl 5 (.int .u8)) false, .val false (.int .i64) false, .val false (.int .i64) false]
abbrev r_i_putBig : List RK := [.val false (.sl 5 (.int .u8))]
noncomputable def D_i_putBig (f : Y_i_putBig) : Nat × Fn := (145, ⟨p_i_putBig, r_i_putBig, fun x => f x.1 x.2.1 x.2.2.1⟩)
noncomputable def F_i_putBig : Fn := (D_i_putBig P_i_putBig).2
theorem E_i_putBig : ∀ x, (mkFn cfg [] A_i_putBig 26 [.tmp 6] (Tryz.f145.body.getD .skip) p_i_putBig r_i_putBig).fn x = B_i_putBig x.1 x.2.1 x.2.2.1 := by intro x; kernel_rfl
theorem S_i_putBig : Sound Tryz.prog 145 F_i_putBig := sm MO cfg_ok tab_nil Tryz.func145 (by kernel_rfl) (by decide) (E_i_putBig)
abbrev p_i_putFrame : List PK := [.val false (.sl 5 (.int .u8)) false, .val true (.pair (.int .i64) (.pair (.int .i64) (.pair (.int .i64) (.rs 5 (.int .u8))))) false]
abbrev r_i_putFrame : List RK := [.val false (.sl 5 (.int .u8))]
noncomputable def D_i_putFrame (f : Y_i_putFrame) : Nat × Fn := (69, ⟨p_i_putFrame, r_i_putFrame, fun x => f x.1 x.2.1⟩)
noncomputable def F_i_putFrame : Fn := (D_i_putFrame P_i_putFrame).2
theorem E_i_putFrame (f_i_putBig : Y_i_putBig) : ∀ x, (mkFn cfg [D_i_putBig f_i_putBig] (lookN []) 26 [.tmp 4] (Tryz.f69.body.getD .skip) p_i_putFrame r_i_putFrame).fn x = B_i_putFrame f_i_putBig x.1 x.2.1 := by intro x; kernel_rfl
theorem S_i_putFrame : Sound Tryz.prog 69 F_i_putFrame := sm MO cfg_ok (tc Tryz.call145 S_i_putBig tab_nil) Tryz.func69 (by kernel_rfl) (by decide) (E_i_putFrame P_i_putBig)
def A_i_putFrames : Nat → Option Jn := lookN [(26, ⟨[.t 0 false [.own 100000000], .t 9 false [.int .i64], .r 100000000 5 (.int .u8)], lt 10 7 [.b 6, .r 1000, .r 65536, .t 6], false⟩)]
abbrev p_i_putFrames : List PK := [.val false (.sl 5 (.int .u8)) false, .val false (.rs 82 kFrame) false]
abbrev r_i_putFrames : List RK := [.val false (.sl 5 (.int .u8))]
noncomputable def D_i_putFrames (f : Y_i_putFrames) : Nat × Fn := (67, ⟨p_i_putFrames, r_i_putFrames, fun x => f x.1 x.2.1⟩)
noncomputable def F_i_putFrames : Fn := (D_i_putFrames P_i_putFrames).2
theorem E_i_putFrames (f_i_putFrame : Y_i_putFrame) : ∀ x, (mkFn cfg [D_i_putFrame f_i_putFrame] A_i_putFrames 18 [.tmp 4] (Tryz.f67.body.getD .skip) p_i_putFrames r_i_putFrames).fn x = B_i_putFrames f_i_putFrame x.1 x.2.1 := by intro x; kernel_rfl
theorem S_i_putFrames : Sound Tryz.prog 67 F_i_putFrames := sm MO cfg_ok (tc Tryz.call69 S_i_putFrame tab_nil) Tryz.func67 (by kernel_rfl) (by decide) (E_i_putFrames P_i_putFrame)
def A_i_Part : Nat → Option Jn := lookN [(31, ⟨[.b 9 [.own 20], .r 20 82 kFrame], lt 21 4 [.x 23], true⟩), (63, ⟨[.b 9 [.own 100001000], .r 100001000 82 kFrame], lt 25 30 [.r 20, .r 43, .r 44, .r 217088, .t 10, .t 11, .x 33, .x 49], true⟩), (506, ⟨[.b 9 [.own 100001000], .r 100001000 82 kFrame], lt 28 27 [.r 20, .r 43, .r 44, .r 217088, .t 10, .t 11, .x 33, .x 49], false⟩)]
abbrev p_i_Part : List PK := [.val false (.int .i64) false, .val false .bool false, .val false (.rs 5 (.int .u8)) false, .val false (.int .i64) false]
abbrev r_i_Part : List RK := [.val false (.sl 82 kFrame)]
noncomputable def D_i_Part (f : Y_i_Part) : Nat × Fn := (68, ⟨p_i_Part, r_i_Part, fun x => f x.1 x.2.1 x.2.2.1 x.2.2.2.1⟩)
noncomputable def F_i_Part : Fn := (D_i_Part P_i_Part).2
theorem E_i_Part (f_i_inRange : Y_i_inRange) (f_slices_Clone_byte_byte : Y_slices_Clone_byte_byte) : ∀ x, (mkFn (cfg.withCk 143 185) [D_i_inRange f_i_inRange, D_slices_Clone_byte_byte f_slices_Clone_byte_byte] A_i_Part 66 [.tmp 8] (Tryz.f68.body.getD .skip) p_i_Part r_i_Part).fn x = B_i_Part f_i_inRange f_slices_Clone_byte_byte x.1 x.2.1 x.2.2.1 x.2.2.2.1 := by intro x; kernel_rfl
theorem S_i_Part : Sound Tryz.prog 68 F_i_Part := sm MO (withCk_ok cfg_ok (fun args w => Tryz.call143 args w) S_Chunk) (tc Tryz.call61 S_i_inRange (tc Tryz.call144 S_slices_Clone_byte_byte tab_nil)) Tryz.func68 (by kernel_rfl) (by decide) (E_i_Part P_i_inRange P_slices_Clone_byte_byte)
abbrev p_i_copyGather : List PK := [.val true (.pair (.int .i64) (.pair .bool (.rs 5 (.int .u8)))) false]
abbrev r_i_copyGather : List RK := [.val true kGather]
noncomputable def D_i_copyGather (f : Y_i_copyGather) : Nat × Fn := (107, ⟨p_i_copyGather, r_i_copyGather, fun x => f x.1⟩)
noncomputable def F_i_copyGather : Fn := (D_i_copyGather P_i_copyGather).2
theorem E_i_copyGather (f_slices_Clone_byte_byte : Y_slices_Clone_byte_byte) : ∀ x, (mkFn cfg [D_slices_Clone_byte_byte f_slices_Clone_byte_byte] (lookN []) 8 [.cell 2 52] (Tryz.f107.body.getD .skip) p_i_copyGather r_i_copyGather).fn x = B_i_copyGather f_slices_Clone_byte_byte x.1 := by intro x; kernel_rfl
theorem S_i_copyGather : Sound Tryz.prog 107 F_i_copyGather := sm MO cfg_ok (tc Tryz.call144 S_slices_Clone_byte_byte tab_nil) Tryz.func107 (by kernel_rfl) (by decide) (E_i_copyGather P_slices_Clone_byte_byte)
def A_i_copyConn : Nat → Option Jn := lookN [(1018, ⟨[.t 27 false [.int .i64], .b 3 [.int .i64, .own 40960, .int .i64, .bool, .own 57346, .int .i64, .own 73729, .int .i64, .own 86017, .own 100000000, .int .i64, .int .i64], .r 40960 5 (.int .u8), .r 57346 5 (.int .u8), .r 73729 150 kField, .r 86017 150 kField, .r 100000000 113 kStr], lt 28 14 [.b 5, .r 38, .r 39, .r 139264, .t 5], false⟩)]
abbrev p_i_copyConn : List PK := [.val true (.pair (.int .i64) (.pair (.rs 5 (.int .u8)) (.pair (.pair (.int .i64) (.pair .bool (.rs 5 (.int .u8)))) (.pair (.pair (.int .i64) (.rs 150 kField)) (.pair (.pair (.int .i64) (.rs 150 kField)) (.pair (.rs 113 kStr) kResp)))))) false]
abbrev r_i_copyConn : List RK := [.val true kConn]
noncomputable def D_i_copyConn (f : Y_i_copyConn) : Nat × Fn := (82, ⟨p_i_copyConn, r_i_copyConn, fun x => f x.1⟩)
noncomputable def F_i_copyConn : Fn := (D_i_copyConn P_i_copyConn).2
theorem E_i_copyConn (f_i_copyTable : Y_i_copyTable) (f_i_copyGather : Y_i_copyGather) (f_slices_Clone_byte_byte : Y_slices_Clone_byte_byte) : ∀ x, (mkFn cfg [D_i_copyTable f_i_copyTable, D_i_copyGather f_i_copyGather, D_slices_Clone_byte_byte f_slices_Clone_byte_byte] A_i_copyConn 43 [.cell 2 55] (Tryz.f82.body.getD .skip) p_i_copyConn r_i_copyConn).fn x = B_i_copyConn f_i_copyTable f_i_copyGather f_slices_Clone_byte_byte x.1 := by intro x; kernel_rfl
theorem S_i_copyConn : Sound Tryz.prog 82 F_i_copyConn := sm MO cfg_ok (tc Tryz.call64 S_i_copyTable (tc Tryz.call107 S_i_copyGather (tc Tryz.call144 S_slices_Clone_byte_byte tab_nil))) Tryz.func82 (by kernel_rfl) (by decide) (E_i_copyConn P_i_copyTable P_i_copyGather P_slices_Clone_byte_byte)
abbrev p_i_RespOk : List PK := [.val true kResp false]
abbrev r_i_RespOk : List RK := [.val false .bool]
noncomputable def D_i_RespOk (f : Y_i_RespOk) : Nat × Fn := (84, ⟨p_i_RespOk, r_i_RespOk, fun x => f x.1⟩)
noncomputable def F_i_RespOk : Fn := (D_i_RespOk P_i_RespOk).2
theorem E_i_RespOk (f_i_inRange : Y_i_inRange) : ∀ x, (mkFn cfg [D_i_inRange f_i_inRange] (lookN []) 11 [.tmp 2] (Tryz.f84.body.getD .skip) p_i_RespOk r_i_RespOk).fn x = B_i_RespOk f_i_inRange x.1 := by intro x; kernel_rfl
theorem S_i_RespOk : Sound Tryz.prog 84 F_i_RespOk := sm MO cfg_ok (tc Tryz.call61 S_i_inRange tab_nil) Tryz.func84 (by kernel_rfl) (by decide) (E_i_RespOk P_i_inRange)
abbrev p_i_RespFields : List PK := [.val true kResp false]
abbrev r_i_RespFields : List RK := [.val false (.sl 150 kField)]
noncomputable def D_i_RespFields (f : Y_i_RespFields) : Nat × Fn := (85, ⟨p_i_RespFields, r_i_RespFields, fun x => f x.1⟩)
noncomputable def F_i_RespFields : Fn := (D_i_RespFields P_i_RespFields).2
theorem E_i_RespFields (f_i_RespOk : Y_i_RespOk) (f_strconv_Itoa : Y_strconv_Itoa) : ∀ x, (mkFn cfg [D_i_RespOk f_i_RespOk, D_strconv_Itoa f_strconv_Itoa] (lookN []) 23 [.tmp 2] (Tryz.f85.body.getD .skip) p_i_RespFields r_i_RespFields).fn x = B_i_RespFields f_i_RespOk f_strconv_Itoa x.1 := by intro x; kernel_rfl
theorem S_i_RespFields : Sound Tryz.prog 85 F_i_RespFields := sm MO cfg_ok (tc Tryz.call84 S_i_RespOk (tc Tryz.call142 S_strconv_Itoa tab_nil)) Tryz.func85 (by kernel_rfl) (by decide) (E_i_RespFields P_i_RespOk P_strconv_Itoa)
def A_i_Conn_str_r0_1_r0_4_r0_6_r0_8_r0_9 : Nat → Option Jn := lookN [(7, ⟨[.t 6 false [.int .i64]], lt 7 21 [], true⟩), (28, ⟨[.t 6 false [.int .i64]], lt 7 21 [], false⟩)]
abbrev p_i_Conn_str_r0_1_r0_4_r0_6_r0_8_r0_9 : List PK := [.ptr (.pair (.int .i64) (.pair (.rs 5 (.int .u8)) (.pair (.pair (.int .i64) (.pair .bool (.rs 5 (.int .u8)))) (.pair (.pair (.int .i64) (.rs 150 kField)) (.pair (.pair (.int .i64) (.rs 150 kField)) (.pair (.rs 113 kStr) kResp)))))), .val false (.int .i64) false]
abbrev r_i_Conn_str_r0_1_r0_4_r0_6_r0_8_r0_9 : List RK := [.val false (.int .i64), .val false .bool]
noncomputable def D_i_Conn_str_r0_1_r0_4_r0_6_r0_8_r0_9 (f : Y_i_Conn_str) : Nat × Fn := (83, ⟨p_i_Conn_str_r0_1_r0_4_r0_6_r0_8_r0_9, r_i_Conn_str_r0_1_r0_4_r0_6_r0_8_r0_9, fun x => f x.1 x.2.1⟩)
noncomputable def F_i_Conn_str_r0_1_r0_4_r0_6_r0_8_r0_9 : Fn := (D_i_Conn_str_r0_1_r0_4_r0_6_r0_8_r0_9 P_i_Conn_str).2
theorem E_i_Conn_str_r0_1_r0_4_r0_6_r0_8_r0_9 : ∀ x, (mkFn cfg [] A_i_Conn_str_r0_1_r0_4_r0_6_r0_8_r0_9 48 [.tmp 4, .tmp 5] (Tryz.f83.body.getD .skip) p_i_Conn_str_r0_1_r0_4_r0_6_r0_8_r0_9 r_i_Conn_str_r0_1_r0_4_r0_6_r0_8_r0_9).fn x = B_i_Conn_str x.1 x.2.1 := by intro x; kernel_rfl
theorem S_i_Conn_str_r0_1_r0_4_r0_6_r0_8_r0_9 : Sound Tryz.prog 83 F_i_Conn_str_r0_1_r0_4_r0_6_r0_8_r0_9 := sm MO cfg_ok tab_nil Tryz.func83 (by kernel_rfl) (by decide) (E_i_Conn_str_r0_1_r0_4_r0_6_r0_8_r0_9)
def A_i_AnswerWith : Nat → Option Jn := lookN [(15, ⟨[], lt 21 26 [], false⟩)]
abbrev p_i_AnswerWith : List PK := [.val true (.pair (.int .i64) (.pair (.rs 5 (.int .u8)) (.pair (.pair (.int .i64) (.pair .bool (.rs 5 (.int .u8)))) (.pair (.pair (.int .i64) (.rs 150 kField)) (.pair (.pair (.int .i64) (.rs 150 kField)) (.pair (.rs 113 kStr) kResp)))))) false, .val false (.int .i64) false, .val true kResp false]
abbrev r_i_AnswerWith : List RK := [.val true kConn, .val false (.sl 5 (.int .u8)), .val false .bool]
noncomputable def D_i_AnswerWith (f : Y_i_AnswerWith) : Nat × Fn := (26, ⟨p_i_AnswerWith, r_i_AnswerWith, fun x => f x.1 x.2.1 x.2.2.1⟩)
noncomputable def F_i_AnswerWith : Fn := (D_i_AnswerWith P_i_AnswerWith).2
theorem E_i_AnswerWith (f_i_ConnOk : Y_i_ConnOk) (f_i_PutFields : Y_i_PutFields) (f_i_putFrames : Y_i_putFrames) (f_i_Part : Y_i_Part) (f_i_copyConn : Y_i_copyConn) (f_i_Conn_str : Y_i_Conn_str) (f_i_RespOk : Y_i_RespOk) (f_i_RespFields : Y_i_RespFields) (f_slices_Delete_impl_Str_impl_Str : Y_slices_Delete_impl_Str_impl_Str) : ∀ x, (mkFn cfg [D_i_ConnOk f_i_ConnOk, D_i_PutFields f_i_PutFields, D_i_putFrames f_i_putFrames, D_i_Part f_i_Part, D_i_copyConn f_i_copyConn, D_i_Conn_str_r0_1_r0_4_r0_6_r0_8_r0_9 f_i_Conn_str, D_i_RespOk f_i_RespOk, D_i_RespFields f_i_RespFields, D_slices_Delete_impl_Str_impl_Str f_slices_Delete_impl_Str_impl_Str] A_i_AnswerWith 70 [.cell 6 55, .tmp 7, .tmp 8] (Tryz.f26.body.getD .skip) p_i_AnswerWith r_i_AnswerWith).fn x = B_i_AnswerWith f_i_ConnOk f_i_PutFields f_i_putFrames f_i_Part f_i_copyConn f_i_Conn_str f_i_RespOk f_i_RespFields f_slices_Delete_impl_Str_impl_Str x.1 x.2.1 x.2.2.1 := by intro x; kernel_rfl
theorem S_i_AnswerWith : Sound Tryz.prog 26 F_i_AnswerWith := sm MO cfg_ok (tc Tryz.call43 S_i_ConnOk (tc Tryz.call65 S_i_PutFields (tc Tryz.call67 S_i_putFrames (tc Tryz.call68 S_i_Part (tc Tryz.call82 S_i_copyConn (tc Tryz.call83 S_i_Conn_str_r0_1_r0_4_r0_6_r0_8_r0_9 (tc Tryz.call84 S_i_RespOk (tc Tryz.call85 S_i_RespFields (tc Tryz.call86 S_slices_Delete_impl_Str_impl_Str tab_nil))))))))) Tryz.func26 (by kernel_rfl) (by decide) (E_i_AnswerWith P_i_ConnOk P_i_PutFields P_i_putFrames P_i_Part P_i_copyConn P_i_Conn_str P_i_RespOk P_i_RespFields P_slices_Delete_impl_Str_impl_Str)
abbrev p_w_eqField : List PK := [.val true kField false, .val true kField false]
abbrev r_w_eqField : List RK := [.val false .bool]
noncomputable def D_w_eqField (f : Y_w_eqField) : Nat × Fn := (146, ⟨p_w_eqField, r_w_eqField, fun x => f x.1 x.2.1⟩)
noncomputable def F_w_eqField : Fn := (D_w_eqField P_w_eqField).2
theorem E_w_eqField : ∀ x, (mkFn cfg [] (lookN []) 15 [.tmp 4] (Tryz.f146.body.getD .skip) p_w_eqField r_w_eqField).fn x = B_w_eqField x.1 x.2.1 := by intro x; kernel_rfl
theorem S_w_eqField : Sound Tryz.prog 146 F_w_eqField := sm MO cfg_ok tab_nil Tryz.func146 (by kernel_rfl) (by decide) (E_w_eqField)
def A_w_eqFieldS : Nat → Option Jn := lookN [(58, ⟨[.t 5 false [.int .i64]], lt 11 16 [], false⟩)]
abbrev p_w_eqFieldS : List PK := [.val false (.rs 150 kField) false, .val false (.rs 150 kField) false]
abbrev r_w_eqFieldS : List RK := [.val false .bool]
noncomputable def D_w_eqFieldS (f : Y_w_eqFieldS) : Nat × Fn := (70, ⟨p_w_eqFieldS, r_w_eqFieldS, fun x => f x.1 x.2.1⟩)
noncomputable def F_w_eqFieldS : Fn := (D_w_eqFieldS P_w_eqFieldS).2
theorem E_w_eqFieldS (f_w_eqField : Y_w_eqField) : ∀ x, (mkFn cfg [D_w_eqField f_w_eqField] A_w_eqFieldS 27 [.tmp 4] (Tryz.f70.body.getD .skip) p_w_eqFieldS r_w_eqFieldS).fn x = B_w_eqFieldS f_w_eqField x.1 x.2.1 := by intro x; kernel_rfl
theorem S_w_eqFieldS : Sound Tryz.prog 70 F_w_eqFieldS := sm MO cfg_ok (tc Tryz.call146 S_w_eqField tab_nil) Tryz.func70 (by kernel_rfl) (by decide) (E_w_eqFieldS P_w_eqField)
abbrev p_w_eqTable : List PK := [.val true (.pair (.int .i64) (.rs 150 kField)) false, .val true (.pair (.int .i64) (.rs 150 kField)) false]
abbrev r_w_eqTable : List RK := [.val false .bool]
noncomputable def D_w_eqTable (f : Y_w_eqTable) : Nat × Fn := (17, ⟨p_w_eqTable, r_w_eqTable, fun x => f x.1 x.2.1⟩)
noncomputable def F_w_eqTable : Fn := (D_w_eqTable P_w_eqTable).2
theorem E_w_eqTable (f_w_eqFieldS : Y_w_eqFieldS) : ∀ x, (mkFn cfg [D_w_eqFieldS f_w_eqFieldS] (lookN []) 16 [.tmp 4] (Tryz.f17.body.getD .skip) p_w_eqTable r_w_eqTable).fn x = B_w_eqTable f_w_eqFieldS x.1 x.2.1 := by intro x; kernel_rfl
theorem S_w_eqTable : Sound Tryz.prog 17 F_w_eqTable := sm MO cfg_ok (tc Tryz.call70 S_w_eqFieldS tab_nil) Tryz.func17 (by kernel_rfl) (by decide) (E_w_eqTable P_w_eqFieldS)
abbrev p_w_eqGather : List PK := [.val true (.pair (.int .i64) (.pair .bool (.rs 5 (.int .u8)))) false, .val true (.pair (.int .i64) (.pair .bool (.rs 5 (.int .u8)))) false]
abbrev r_w_eqGather : List RK := [.val false .bool]
noncomputable def D_w_eqGather (f : Y_w_eqGather) : Nat × Fn := (87, ⟨p_w_eqGather, r_w_eqGather, fun x => f x.1 x.2.1⟩)
noncomputable def F_w_eqGather : Fn := (D_w_eqGather P_w_eqGather).2
theorem E_w_eqGather (f_w_eqByteS : Y_w_eqByteS) : ∀ x, (mkFn cfg [D_w_eqByteS f_w_eqByteS] (lookN []) 21 [.tmp 4] (Tryz.f87.body.getD .skip) p_w_eqGather r_w_eqGather).fn x = B_w_eqGather f_w_eqByteS x.1 x.2.1 := by intro x; kernel_rfl
theorem S_w_eqGather : Sound Tryz.prog 87 F_w_eqGather := sm MO cfg_ok (tc Tryz.call16 S_w_eqByteS tab_nil) Tryz.func87 (by kernel_rfl) (by decide) (E_w_eqGather P_w_eqByteS)
abbrev p_w_eqReq : List PK := [.val true kReq false, .val true kReq false]
abbrev r_w_eqReq : List RK := [.val false .bool]
noncomputable def D_w_eqReq (f : Y_w_eqReq) : Nat × Fn := (172, ⟨p_w_eqReq, r_w_eqReq, fun x => f x.1 x.2.1⟩)
noncomputable def F_w_eqReq : Fn := (D_w_eqReq P_w_eqReq).2
theorem E_w_eqReq : ∀ x, (mkFn cfg [] (lookN []) 20 [.tmp 4] (Tryz.f172.body.getD .skip) p_w_eqReq r_w_eqReq).fn x = B_w_eqReq x.1 x.2.1 := by intro x; kernel_rfl
theorem S_w_eqReq : Sound Tryz.prog 172 F_w_eqReq := sm MO cfg_ok tab_nil Tryz.func172 (by kernel_rfl) (by decide) (E_w_eqReq)
abbrev p_w_eqStr : List PK := [.val true (.pair (.int .i64) (.pair (.int .i64) (.pair kReq (.rs 5 (.int .u8))))) false, .val true (.pair (.int .i64) (.pair (.int .i64) (.pair kReq (.rs 5 (.int .u8))))) false]
abbrev r_w_eqStr : List RK := [.val false .bool]
noncomputable def D_w_eqStr (f : Y_w_eqStr) : Nat × Fn := (150, ⟨p_w_eqStr, r_w_eqStr, fun x => f x.1 x.2.1⟩)
noncomputable def F_w_eqStr : Fn := (D_w_eqStr P_w_eqStr).2
theorem E_w_eqStr (f_w_eqByteS : Y_w_eqByteS) (f_w_eqReq : Y_w_eqReq) : ∀ x, (mkFn cfg [D_w_eqByteS f_w_eqByteS, D_w_eqReq f_w_eqReq] (lookN []) 27 [.tmp 4] (Tryz.f150.body.getD .skip) p_w_eqStr r_w_eqStr).fn x = B_w_eqStr f_w_eqByteS f_w_eqReq x.1 x.2.1 := by intro x; kernel_rfl
theorem S_w_eqStr : Sound Tryz.prog 150 F_w_eqStr := sm MO cfg_ok (tc Tryz.call16 S_w_eqByteS (tc Tryz.call172 S_w_eqReq tab_nil)) Tryz.func150 (by kernel_rfl) (by decide) (E_w_eqStr P_w_eqByteS P_w_eqReq)
def A_w_eqStrS : Nat → Option Jn := lookN [(58, ⟨[.t 5 false [.int .i64]], lt 11 16 [], false⟩)]
abbrev p_w_eqStrS : List PK := [.val false (.rs 113 kStr) false, .val false (.rs 113 kStr) false]
abbrev r_w_eqStrS : List RK := [.val false .bool]
noncomputable def D_w_eqStrS (f : Y_w_eqStrS) : Nat × Fn := (88, ⟨p_w_eqStrS, r_w_eqStrS, fun x => f x.1 x.2.1⟩)
noncomputable def F_w_eqStrS : Fn := (D_w_eqStrS P_w_eqStrS).2
theorem E_w_eqStrS (f_w_eqStr : Y_w_eqStr) : ∀ x, (mkFn cfg [D_w_eqStr f_w_eqStr] A_w_eqStrS 27 [.tmp 4] (Tryz.f88.body.getD .skip) p_w_eqStrS r_w_eqStrS).fn x = B_w_eqStrS f_w_eqStr x.1 x.2.1 := by intro x; kernel_rfl
theorem S_w_eqStrS : Sound Tryz.prog 88 F_w_eqStrS := sm MO cfg_ok (tc Tryz.call150 S_w_eqStr tab_nil) Tryz.func88 (by kernel_rfl) (by decide) (E_w_eqStrS P_w_eqStr)
abbrev p_w_eqConn : List PK := [.val true (.pair (.int .i64) (.pair (.rs 5 (.int .u8)) (.pair (.pair (.int .i64) (.pair .bool (.rs 5 (.int .u8)))) (.pair (.pair (.int .i64) (.rs 150 kField)) (.pair (.pair (.int .i64) (.rs 150 kField)) (.pair (.rs 113 kStr) kResp)))))) false, .val true (.pair (.int .i64) (.pair (.rs 5 (.int .u8)) (.pair (.pair (.int .i64) (.pair .bool (.rs 5 (.int .u8)))) (.pair (.pair (.int .i64) (.rs 150 kField)) (.pair (.pair (.int .i64) (.rs 150 kField)) (.pair (.rs 113 kStr) kResp)))))) false]
abbrev r_w_eqConn : List RK := [.val false .bool]
noncomputable def D_w_eqConn (f : Y_w_eqConn) : Nat × Fn := (27, ⟨p_w_eqConn, r_w_eqConn, fun x => f x.1 x.2.1⟩)
noncomputable def F_w_eqConn : Fn := (D_w_eqConn P_w_eqConn).2
theorem E_w_eqConn (f_w_eqByteS : Y_w_eqByteS) (f_w_eqTable : Y_w_eqTable) (f_w_eqGather : Y_w_eqGather) (f_w_eqStrS : Y_w_eqStrS) : ∀ x, (mkFn cfg [D_w_eqByteS f_w_eqByteS, D_w_eqTable f_w_eqTable, D_w_eqGather f_w_eqGather, D_w_eqStrS f_w_eqStrS] (lookN []) 50 [.tmp 4] (Tryz.f27.body.getD .skip) p_w_eqConn r_w_eqConn).fn x = B_w_eqConn f_w_eqByteS f_w_eqTable f_w_eqGather f_w_eqStrS x.1 x.2.1 := by intro x; kernel_rfl
theorem S_w_eqConn : Sound Tryz.prog 27 F_w_eqConn := sm MO cfg_ok (tc Tryz.call16 S_w_eqByteS (tc Tryz.call17 S_w_eqTable (tc Tryz.call87 S_w_eqGather (tc Tryz.call88 S_w_eqStrS tab_nil)))) Tryz.func27 (by kernel_rfl) (by decide) (E_w_eqConn P_w_eqByteS P_w_eqTable P_w_eqGather P_w_eqStrS)
def A_w_markText : Nat → Option Jn := lookN [(15, ⟨[.t 3 false [.str]], lt 6 12 [.r 12, .t 0], true⟩), (60, ⟨[.t 0 false [.int .i64], .t 3 false [.str]], lt 6 12 [.r 12], false⟩)]
abbrev p_w_markText : List PK := [.val false (.int .i64) false]
abbrev r_w_markText : List RK := [.val false .str]
noncomputable def D_w_markText (f : Y_w_markText) : Nat × Fn := (124, ⟨p_w_markText, r_w_markText, fun x => f x.1⟩)
noncomputable def F_w_markText : Fn := (D_w_markText P_w_markText).2
theorem E_w_markText : ∀ x, (mkFn cfg [] A_w_markText 20 [.tmp 2] (Tryz.f124.body.getD .skip) p_w_markText r_w_markText).fn x = B_w_markText x.1 := by intro x; kernel_rfl
theorem S_w_markText : Sound Tryz.prog 124 F_w_markText := sm MO cfg_ok tab_nil Tryz.func124 (by kernel_rfl) (by decide) (E_w_markText)
def A_w_markFieldS : Nat → Option Jn := lookN [(26, ⟨[.t 0 false [.own 1000], .t 1 false [.int .i64], .t 5 false [.int .i64], .r 1000 150 kField], lt 6 22 [.x 16, .x 24], false⟩)]
abbrev p_w_markFieldS : List PK := [.val false (.sl 150 kField) true, .val false (.int .i64) false]
abbrev r_w_markFieldS : List RK := [.val false (.int .i64)]
noncomputable def D_w_markFieldS (f : Y_w_markFieldS) : Nat × Fn := (71, ⟨p_w_markFieldS, r_w_markFieldS, fun x => f x.1 x.2.1⟩)
noncomputable def F_w_markFieldS : Fn := (D_w_markFieldS P_w_markFieldS).2
theorem E_w_markFieldS (f_w_markText : Y_w_markText) : ∀ x, (mkFn cfg [D_w_markText f_w_markText] A_w_markFieldS 29 [.tmp 4] (Tryz.f71.body.getD .skip) p_w_markFieldS r_w_markFieldS).fn x = B_w_markFieldS f_w_markText x.1 x.2.1 := by intro x; kernel_rfl
theorem S_w_markFieldS : Sound Tryz.prog 71 F_w_markFieldS := sm MO cfg_ok (tc Tryz.call124 S_w_markText tab_nil) Tryz.func71 (by kernel_rfl) (by decide) (E_w_markFieldS P_w_markText)
abbrev p_w_markTable : List PK := [.val true kTable true, .val false (.int .i64) false]
abbrev r_w_markTable : List RK := [.val false (.int .i64)]
noncomputable def D_w_markTable (f : Y_w_markTable) : Nat × Fn := (18, ⟨p_w_markTable, r_w_markTable, fun x => f x.1 x.2.1⟩)
noncomputable def F_w_markTable : Fn := (D_w_markTable P_w_markTable).2
theorem E_w_markTable (f_w_markFieldS : Y_w_markFieldS) : ∀ x, (mkFn cfg [D_w_markFieldS f_w_markFieldS] (lookN []) 10 [.tmp 4] (Tryz.f18.body.getD .skip) p_w_markTable r_w_markTable).fn x = B_w_markTable f_w_markFieldS x.1 x.2.1 := by intro x; kernel_rfl
theorem S_w_markTable : Sound Tryz.prog 18 F_w_markTable := sm MO cfg_ok (tc Tryz.call71 S_w_markFieldS tab_nil) Tryz.func18 (by kernel_rfl) (by decide) (E_w_markTable P_w_markFieldS)
abbrev p_w_markGather : List PK := [.val true kGather true, .val false (.int .i64) false]
abbrev r_w_markGather : List RK := [.val false (.int .i64)]
noncomputable def D_w_markGather (f : Y_w_markGather) : Nat × Fn := (89, ⟨p_w_markGather, r_w_markGather, fun x => f x.1 x.2.1⟩)
noncomputable def F_w_markGather : Fn := (D_w_markGather P_w_markGather).2
theorem E_w_markGather (f_w_markByteS : Y_w_markByteS) : ∀ x, (mkFn cfg [D_w_markByteS f_w_markByteS] (lookN []) 10 [.tmp 4] (Tryz.f89.body.getD .skip) p_w_markGather r_w_markGather).fn x = B_w_markGather f_w_markByteS x.1 x.2.1 := by intro x; kernel_rfl
theorem S_w_markGather : Sound Tryz.prog 89 F_w_markGather := sm MO cfg_ok (tc Tryz.call19 S_w_markByteS tab_nil) Tryz.func89 (by kernel_rfl) (by decide) (E_w_markGather P_w_markByteS)
def A_w_markStrS : Nat → Option Jn := lookN [(26, ⟨[.t 0 false [.own 1000], .t 1 false [.int .i64], .t 5 false [.int .i64], .r 1000 113 kStr], lt 6 52 [.x 15, .x 22, .x 29, .x 38, .x 46, .x 53], false⟩)]
abbrev p_w_markStrS : List PK := [.val false (.sl 113 kStr) true, .val false (.int .i64) false]
abbrev r_w_markStrS : List RK := [.val false (.int .i64)]
noncomputable def D_w_markStrS (f : Y_w_markStrS) : Nat × Fn := (90, ⟨p_w_markStrS, r_w_markStrS, fun x => f x.1 x.2.1⟩)
noncomputable def F_w_markStrS : Fn := (D_w_markStrS P_w_markStrS).2
theorem E_w_markStrS (f_w_markByteS : Y_w_markByteS) (f_w_markText : Y_w_markText) : ∀ x, (mkFn cfg [D_w_markByteS f_w_markByteS, D_w_markText f_w_markText] A_w_markStrS 59 [.tmp 4] (Tryz.f90.body.getD .skip) p_w_markStrS r_w_markStrS).fn x = B_w_markStrS f_w_markByteS f_w_markText x.1 x.2.1 := by intro x; kernel_rfl
theorem S_w_markStrS : Sound Tryz.prog 90 F_w_markStrS := sm MO cfg_ok (tc Tryz.call19 S_w_markByteS (tc Tryz.call124 S_w_markText tab_nil)) Tryz.func90 (by kernel_rfl) (by decide) (E_w_markStrS P_w_markByteS P_w_markText)
abbrev p_w_markConn : List PK := [.val true kConn true, .val false (.int .i64) false]
abbrev r_w_markConn : List RK := [.val false (.int .i64)]
noncomputable def D_w_markConn (f : Y_w_markConn) : Nat × Fn := (28, ⟨p_w_markConn, r_w_markConn, fun x => f x.1 x.2.1⟩)
noncomputable def F_w_markConn : Fn := (D_w_markConn P_w_markConn).2
theorem E_w_markConn (f_w_markTable : Y_w_markTable) (f_w_markByteS : Y_w_markByteS) (f_w_markGather : Y_w_markGather) (f_w_markStrS : Y_w_markStrS) : ∀ x, (mkFn cfg [D_w_markTable f_w_markTable, D_w_markByteS f_w_markByteS, D_w_markGather f_w_markGather, D_w_markStrS f_w_markStrS] (lookN []) 26 [.tmp 4] (Tryz.f28.body.getD .skip) p_w_markConn r_w_markConn).fn x = B_w_markConn f_w_markTable f_w_markByteS f_w_markGather f_w_markStrS x.1 x.2.1 := by intro x; kernel_rfl
theorem S_w_markConn : Sound Tryz.prog 28 F_w_markConn := sm MO cfg_ok (tc Tryz.call18 S_w_markTable (tc Tryz.call19 S_w_markByteS (tc Tryz.call89 S_w_markGather (tc Tryz.call90 S_w_markStrS tab_nil)))) Tryz.func28 (by kernel_rfl) (by decide) (E_w_markConn P_w_markTable P_w_markByteS P_w_markGather P_w_markStrS)
def A_w_heldFieldS : Nat → Option Jn := lookN [(26, ⟨[.t 1 false [.int .i64], .t 5 false [.int .i64]], lt 6 26 [], false⟩)]
abbrev p_w_heldFieldS : List PK := [.val false (.rs 150 kField) false, .val false (.int .i64) false]
abbrev r_w_heldFieldS : List RK := [.val false (.int .i64)]
noncomputable def D_w_heldFieldS (f : Y_w_heldFieldS) : Nat × Fn := (72, ⟨p_w_heldFieldS, r_w_heldFieldS, fun x => f x.1 x.2.1⟩)
noncomputable def F_w_heldFieldS : Fn := (D_w_heldFieldS P_w_heldFieldS).2
theorem E_w_heldFieldS (f_w_markText : Y_w_markText) : ∀ x, (mkFn cfg [D_w_markText f_w_markText] A_w_heldFieldS 33 [.tmp 4] (Tryz.f72.body.getD .skip) p_w_heldFieldS r_w_heldFieldS).fn x = B_w_heldFieldS f_w_markText x.1 x.2.1 := by intro x; kernel_rfl
theorem S_w_heldFieldS : Sound Tryz.prog 72 F_w_heldFieldS := sm MO cfg_ok (tc Tryz.call124 S_w_markText tab_nil) Tryz.func72 (by kernel_rfl) (by decide) (E_w_heldFieldS P_w_markText)
abbrev p_w_heldTable : List PK := [.val true (.pair (.int .i64) (.rs 150 kField)) false, .val false (.int .i64) false]
abbrev r_w_heldTable : List RK := [.val false (.int .i64)]
noncomputable def D_w_heldTable (f : Y_w_heldTable) : Nat × Fn := (21, ⟨p_w_heldTable, r_w_heldTable, fun x => f x.1 x.2.1⟩)
noncomputable def F_w_heldTable : Fn := (D_w_heldTable P_w_heldTable).2
theorem E_w_heldTable (f_w_heldFieldS : Y_w_heldFieldS) : ∀ x, (mkFn cfg [D_w_heldFieldS f_w_heldFieldS] (lookN []) 12 [.tmp 4] (Tryz.f21.body.getD .skip) p_w_heldTable r_w_heldTable).fn x = B_w_heldTable f_w_heldFieldS x.1 x.2.1 := by intro x; kernel_rfl
theorem S_w_heldTable : Sound Tryz.prog 21 F_w_heldTable := sm MO cfg_ok (tc Tryz.call72 S_w_heldFieldS tab_nil) Tryz.func21 (by kernel_rfl) (by decide) (E_w_heldTable P_w_heldFieldS)
abbrev p_w_heldGather : List PK := [.val true (.pair (.int .i64) (.pair .bool (.rs 5 (.int .u8)))) false, .val false (.int .i64) false]
abbrev r_w_heldGather : List RK := [.val false (.int .i64)]
noncomputable def D_w_heldGather (f : Y_w_heldGather) : Nat × Fn := (91, ⟨p_w_heldGather, r_w_heldGather, fun x => f x.1 x.2.1⟩)
noncomputable def F_w_heldGather : Fn := (D_w_heldGather P_w_heldGather).2
theorem E_w_heldGather (f_w_heldByteS : Y_w_heldByteS) : ∀ x, (mkFn cfg [D_w_heldByteS f_w_heldByteS] (lookN []) 12 [.tmp 4] (Tryz.f91.body.getD .skip) p_w_heldGather r_w_heldGather).fn x = B_w_heldGather f_w_heldByteS x.1 x.2.1 := by intro x; kernel_rfl
theorem S_w_heldGather : Sound Tryz.prog 91 F_w_heldGather := sm MO cfg_ok (tc Tryz.call20 S_w_heldByteS tab_nil) Tryz.func91 (by kernel_rfl) (by decide) (E_w_heldGather P_w_heldByteS)
def A_w_heldStrS : Nat → Option Jn := lookN [(26, ⟨[.t 1 false [.int .i64], .t 5 false [.int .i64]], lt 6 64 [], false⟩)]
abbrev p_w_heldStrS : List PK := [.val false (.rs 113 kStr) false, .val false (.int .i64) false]
abbrev r_w_heldStrS : List RK := [.val false (.int .i64)]
noncomputable def D_w_heldStrS (f : Y_w_heldStrS) : Nat × Fn := (92, ⟨p_w_heldStrS, r_w_heldStrS, fun x => f x.1 x.2.1⟩)
noncomputable def F_w_heldStrS : Fn := (D_w_heldStrS P_w_heldStrS).2
theorem E_w_heldStrS (f_w_heldByteS : Y_w_heldByteS) (f_w_markText : Y_w_markText) : ∀ x, (mkFn cfg [D_w_heldByteS f_w_heldByteS, D_w_markText f_w_markText] A_w_heldStrS 71 [.tmp 4] (Tryz.f92.body.getD .skip) p_w_heldStrS r_w_heldStrS).fn x = B_w_heldStrS f_w_heldByteS f_w_markText x.1 x.2.1 := by intro x; kernel_rfl
theorem S_w_heldStrS : Sound Tryz.prog 92 F_w_heldStrS := sm MO cfg_ok (tc Tryz.call20 S_w_heldByteS (tc Tryz.call124 S_w_markText tab_nil)) Tryz.func92 (by kernel_rfl) (by decide) (E_w_heldStrS P_w_heldByteS P_w_markText)
abbrev p_w_heldConn : List PK := [.val true (.pair (.int .i64) (.pair (.rs 5 (.int .u8)) (.pair (.pair (.int .i64) (.pair .bool (.rs 5 (.int .u8)))) (.pair (.pair (.int .i64) (.rs 150 kField)) (.pair (.pair (.int .i64) (.rs 150 kField)) (.pair (.rs 113 kStr) kResp)))))) false, .val false (.int .i64) false]
abbrev r_w_heldConn : List RK := [.val false (.int .i64)]
noncomputable def D_w_heldConn (f : Y_w_heldConn) : Nat × Fn := (29, ⟨p_w_heldConn, r_w_heldConn, fun x => f x.1 x.2.1⟩)
noncomputable def F_w_heldConn : Fn := (D_w_heldConn P_w_heldConn).2
theorem E_w_heldConn (f_w_heldByteS : Y_w_heldByteS) (f_w_heldTable : Y_w_heldTable) (f_w_heldGather : Y_w_heldGather) (f_w_heldStrS : Y_w_heldStrS) : ∀ x, (mkFn cfg [D_w_heldByteS f_w_heldByteS, D_w_heldTable f_w_heldTable, D_w_heldGather f_w_heldGather, D_w_heldStrS f_w_heldStrS] (lookN []) 36 [.tmp 4] (Tryz.f29.body.getD .skip) p_w_heldConn r_w_heldConn).fn x = B_w_heldConn f_w_heldByteS f_w_heldTable f_w_heldGather f_w_heldStrS x.1 x.2.1 := by intro x; kernel_rfl
theorem S_w_heldConn : Sound Tryz.prog 29 F_w_heldConn := sm MO cfg_ok (tc Tryz.call20 S_w_heldByteS (tc Tryz.call21 S_w_heldTable (tc Tryz.call91 S_w_heldGather (tc Tryz.call92 S_w_heldStrS tab_nil)))) Tryz.func29 (by kernel_rfl) (by decide) (E_w_heldConn P_w_heldByteS P_w_heldTable P_w_heldGather P_w_heldStrS)
def A_s_l16Copy_r98_0_r99_0 : Nat → Option Jn := lookN [(2042, ⟨[.t 4 false [.int .i64], .b 3 [.int .i64, .own 10, .int .i64, .bool, .own 61442, .int .i64, .own 77825, .int .i64, .own 94209, .own 100000000, .int .i64, .int .i64], .r 10 5 (.int .u8), .r 61442 5 (.int .u8), .r 77825 150 kField, .r 94209 150 kField, .r 100000000 113 (.pair (.int .i64) (.pair (.int .i64) (.pair kReq (.rs 5 (.int .u8)))))], lt 26 23 [.b 5, .r 24, .r 38, .r 41, .r 46, .r 47, .t 5], false⟩)]
abbrev p_s_l16Copy_r98_0_r99_0 : List PK := [.val true (.pair (.int .i64) (.pair (.rs 5 (.int .u8)) (.pair (.pair (.int .i64) (.pair .bool (.rs 5 (.int .u8)))) (.pair (.pair (.int .i64) (.rs 150 kField)) (.pair (.pair (.int .i64) (.rs 150 kField)) (.pair (.rs 113 kStr) kResp)))))) false]
abbrev r_s_l16Copy_r98_0_r99_0 : List RK := [.val true (.pair (.int .i64) (.pair (.sl 5 (.int .u8)) (.pair kGather (.pair kTable (.pair kTable (.pair (.sl 113 (.pair (.int .i64) (.pair (.int .i64) (.pair kReq (.rs 5 (.int .u8)))))) kResp))))))]
noncomputable def D_s_l16Copy_r98_0_r99_0 (f : Y_s_l16Copy) : Nat × Fn := (76, ⟨p_s_l16Copy_r98_0_r99_0, r_s_l16Copy_r98_0_r99_0, fun x => f x.1⟩)
noncomputable def F_s_l16Copy_r98_0_r99_0 : Fn := (D_s_l16Copy_r98_0_r99_0 P_s_l16Copy).2
theorem E_s_l16Copy_r98_0_r99_0 (f_s_l4Copy : Y_s_l4Copy) (f_s_l8Copy : Y_s_l8Copy) : ∀ x, (mkFn cfgR [D_s_l4Copy f_s_l4Copy, D_s_l8Copy f_s_l8Copy] A_s_l16Copy_r98_0_r99_0 50 [.cell 2 55] (Tryz.f76.body.getD .skip) p_s_l16Copy_r98_0_r99_0 r_s_l16Copy_r98_0_r99_0).fn x = B_s_l16Copy f_s_l4Copy f_s_l8Copy x.1 := by intro x; kernel_rfl
theorem S_s_l16Copy_r98_0_r99_0 : Sound Tryz.prog 76 F_s_l16Copy_r98_0_r99_0 := sm MO cfgR_ok (tc Tryz.call54 S_s_l4Copy (tc Tryz.call148 S_s_l8Copy tab_nil)) Tryz.func76 (by kernel_rfl) (by decide) (E_s_l16Copy_r98_0_r99_0 P_s_l4Copy P_s_l8Copy)
def A_s_Part_r98_0_r99_0 : Nat → Option Jn := lookN [(15, ⟨[.t 3 false [.int .i64]], [.t 18, .t 19], true⟩), (31, ⟨[.t 3 false [.int .i64]], [.t 20, .t 21], true⟩), (506, ⟨[.t 9 false [.own 100002000], .t 10 false [.int .i64], .r 100002000 82 (.pair (.int .i64) (.pair (.int .i64) (.pair (.int .i64) (.rs 5 (.int .u8)))))], lt 22 42 [.b 11, .r 13, .r 53, .r 58, .r 62, .r 63, .t 11, .t 12], false⟩), (1012, ⟨[], lt 22 8 [], false⟩), (16201, ⟨[.b 11 [.int .i64, .int .i64, .int .i64, .nil]], lt 35 5 [], true⟩), (64807, ⟨[.t 12 false [.int .i64], .b 11 [.int .i64, .int .i64, .int .i64, .nil]], lt 43 10 [], true⟩)]
abbrev p_s_Part_r98_0_r99_0 : List PK := [.val false (.int .i64) false, .val false .bool false, .val false (.rs 5 (.int .u8)) false, .val false (.int .i64) false]
abbrev r_s_Part_r98_0_r99_0 : List RK := [.val false (.sl 82 (.pair (.int .i64) (.pair (.int .i64) (.pair (.int .i64) (.rs 5 (.int .u8))))))]
noncomputable def D_s_Part_r98_0_r99_0 (f : Y_s_Part) : Nat × Fn := (58, ⟨p_s_Part_r98_0_r99_0, r_s_Part_r98_0_r99_0, fun x => f x.1 x.2.1 x.2.2.1 x.2.2.2.1⟩)
noncomputable def F_s_Part_r98_0_r99_0 : Fn := (D_s_Part_r98_0_r99_0 P_s_Part).2
theorem E_s_Part_r98_0_r99_0 (f_s_l1In : Y_s_l1In) : ∀ x, (mkFn cfgR [D_s_l1In f_s_l1In] A_s_Part_r98_0_r99_0 65 [.tmp 8] (Tryz.f58.body.getD .skip) p_s_Part_r98_0_r99_0 r_s_Part_r98_0_r99_0).fn x = B_s_Part f_s_l1In x.1 x.2.1 x.2.2.1 x.2.2.2.1 := by intro x; kernel_rfl
theorem S_s_Part_r98_0_r99_0 : Sound Tryz.prog 58 F_s_Part_r98_0_r99_0 := sm MO cfgR_ok (tc Tryz.call53 S_s_l1In tab_nil) Tryz.func58 (by kernel_rfl) (by decide) (E_s_Part_r98_0_r99_0 P_s_l1In)
def A_s_AnswerWith_r98_0_r99_0 : Nat → Option Jn := lookN [(15, ⟨[], lt 18 26 [], false⟩)]
abbrev p_s_AnswerWith_r98_0_r99_0 : List PK := [.val true (.pair (.int .i64) (.pair (.rs 5 (.int .u8)) (.pair (.pair (.int .i64) (.pair .bool (.rs 5 (.int .u8)))) (.pair (.pair (.int .i64) (.rs 150 kField)) (.pair (.pair (.int .i64) (.rs 150 kField)) (.pair (.rs 113 kStr) kResp)))))) false, .val false (.int .i64) false, .val true kResp false]
abbrev r_s_AnswerWith_r98_0_r99_0 : List RK := [.val true (.pair (.int .i64) (.pair (.sl 5 (.int .u8)) (.pair kGather (.pair kTable (.pair (.pair (.int .i64) (.rs 150 kField)) (.pair (.sl 113 (.pair (.int .i64) (.pair (.int .i64) (.pair kReq (.rs 5 (.int .u8)))))) kResp)))))), .val false (.sl 5 (.int .u8)), .val false .bool]
noncomputable def D_s_AnswerWith_r98_0_r99_0 (f : Y_s_AnswerWith_r98_0_r99_0) : Nat × Fn := (23, ⟨p_s_AnswerWith_r98_0_r99_0, r_s_AnswerWith_r98_0_r99_0, fun x => f x.1 x.2.1 x.2.2.1⟩)
noncomputable def F_s_AnswerWith_r98_0_r99_0 : Fn := (D_s_AnswerWith_r98_0_r99_0 P_s_AnswerWith_r98_0_r99_0).2
theorem E_s_AnswerWith_r98_0_r99_0 (f_s_ConnOk : Y_s_ConnOk) (f_s_PutFields_r99_0 : Y_s_PutFields_r99_0) (f_s_l16Frames : Y_s_l16Frames) (f_s_Part : Y_s_Part) (f_s_l16Copy : Y_s_l16Copy) (f_s_l16At : Y_s_l16At) (f_s_RespOk : Y_s_RespOk) (f_s_RespFields : Y_s_RespFields) : ∀ x, (mkFn cfgR [D_s_ConnOk f_s_ConnOk, D_s_PutFields_r99_0 f_s_PutFields_r99_0, D_s_l16Frames f_s_l16Frames, D_s_Part_r98_0_r99_0 f_s_Part, D_s_l16Copy_r98_0_r99_0 f_s_l16Copy, D_s_l16At f_s_l16At, D_s_RespOk f_s_RespOk, D_s_RespFields f_s_RespFields] A_s_AnswerWith_r98_0_r99_0 74 [.cell 6 55, .tmp 7, .tmp 8] (Tryz.f23.body.getD .skip) p_s_AnswerWith_r98_0_r99_0 r_s_AnswerWith_r98_0_r99_0).fn x = B_s_AnswerWith_r98_0_r99_0 f_s_ConnOk f_s_PutFields_r99_0 f_s_l16Frames f_s_Part f_s_l16Copy f_s_l16At f_s_RespOk f_s_RespFields x.1 x.2.1 x.2.2.1 := by intro x; kernel_rfl
theorem S_s_AnswerWith_r98_0_r99_0 : Sound Tryz.prog 23 F_s_AnswerWith_r98_0_r99_0 := sm MO cfgR_ok (tc Tryz.call46 S_s_ConnOk (tc Tryz.call55 S_s_PutFields_r99_0 (tc Tryz.call57 S_s_l16Frames (tc Tryz.call58 S_s_Part_r98_0_r99_0 (tc Tryz.call76 S_s_l16Copy_r98_0_r99_0 (tc Tryz.call77 S_s_l16At (tc Tryz.call78 S_s_RespOk (tc Tryz.call79 S_s_RespFields tab_nil)))))))) Tryz.func23 (by kernel_rfl) (by decide) (E_s_AnswerWith_r98_0_r99_0 P_s_ConnOk P_s_PutFields_r99_0 P_s_l16Frames P_s_Part P_s_l16Copy P_s_l16At P_s_RespOk P_s_RespFields)
def A_w_FnExactAnswerWith : Nat → Option Jn := lookN [(255, ⟨[], lt 47 15 [], false⟩), (4095, ⟨[], lt 70 19 [], false⟩), (8388607, ⟨[], lt 118 15 [], false⟩)]
abbrev p_w_FnExactAnswerWith : List PK := [.val true (.pair (.int .i64) (.pair (.rs 5 (.int .u8)) (.pair (.pair (.int .i64) (.pair .bool (.rs 5 (.int .u8)))) (.pair (.pair (.int .i64) (.rs 161 kField)) (.pair (.pair (.int .i64) (.rs 161 kField)) (.pair (.rs 180 kStr) kResp)))))) false, .val false (.int .i64) false, .val true kResp false]
abbrev r_w_FnExactAnswerWith : List RK := [.val false .bool]
noncomputable def D_w_FnExactAnswerWith (f : Y_w_FnExactAnswerWith) : Nat × Fn := (4, ⟨p_w_FnExactAnswerWith, r_w_FnExactAnswerWith, fun x => f x.1 x.2.1 x.2.2.1⟩)
noncomputable def F_w_FnExactAnswerWith : Fn := (D_w_FnExactAnswerWith P_w_FnExactAnswerWith).2
theorem E_w_FnExactAnswerWith (f_w_eqByteS : Y_w_eqByteS) (f_w_markByteS : Y_w_markByteS) (f_w_heldByteS : Y_w_heldByteS) (f_w_szConn : Y_w_szConn) (f_s_AnswerWith_r98_0_r99_0 : Y_s_AnswerWith_r98_0_r99_0) (f_w_toConn : Y_w_toConn) (f_w_toResp : Y_w_toResp) (f_i_AnswerWith : Y_i_AnswerWith) (f_w_eqConn : Y_w_eqConn) (f_w_markConn : Y_w_markConn) (f_w_heldConn : Y_w_heldConn) : ∀ x, (mkFn cfg [D_w_eqByteS f_w_eqByteS, D_w_markByteS f_w_markByteS, D_w_heldByteS f_w_heldByteS, D_w_szConn f_w_szConn, D_s_AnswerWith_r98_0_r99_0 f_s_AnswerWith_r98_0_r99_0, D_w_toConn f_w_toConn, D_w_toResp f_w_toResp, D_i_AnswerWith f_i_AnswerWith, D_w_eqConn f_w_eqConn, D_w_markConn f_w_markConn, D_w_heldConn f_w_heldConn] A_w_FnExactAnswerWith 146 [.tmp 6] (Tryz.f4.body.getD .skip) p_w_FnExactAnswerWith r_w_FnExactAnswerWith).fn x = B_w_FnExactAnswerWith f_w_eqByteS f_w_markByteS f_w_heldByteS f_w_szConn f_s_AnswerWith_r98_0_r99_0 f_w_toConn f_w_toResp f_i_AnswerWith f_w_eqConn f_w_markConn f_w_heldConn x.1 x.2.1 x.2.2.1 := by intro x; kernel_rfl
theorem S_w_FnExactAnswerWith : Sound Tryz.prog 4 F_w_FnExactAnswerWith := sm MO cfg_ok (tc Tryz.call16 S_w_eqByteS (tc Tryz.call19 S_w_markByteS (tc Tryz.call20 S_w_heldByteS (tc Tryz.call22 S_w_szConn (tc Tryz.call23 S_s_AnswerWith_r98_0_r99_0 (tc Tryz.call24 S_w_toConn (tc Tryz.call25 S_w_toResp (tc Tryz.call26 S_i_AnswerWith (tc Tryz.call27 S_w_eqConn (tc Tryz.call28 S_w_markConn (tc Tryz.call29 S_w_heldConn tab_nil))))))))))) Tryz.func4 (by kernel_rfl) (by decide) (E_w_FnExactAnswerWith P_w_eqByteS P_w_markByteS P_w_heldByteS P_w_szConn P_s_AnswerWith_r98_0_r99_0 P_w_toConn P_w_toResp P_i_AnswerWith P_w_eqConn P_w_markConn P_w_heldConn)
end Go.Proofs.YthnfghmjipikhaaGreatDoor.Ev
